import PyProof.Rows.All
import Wide.All
import OpenK.AllK
import Wide.FinOn
import HandS.ForMost
import HandS.ForExc
import HandS.IsInst
import HandS.Deep
import HandS.Defaults
import KE.SortData
import KE.GoesEnum
import HandS.ExcCtx
import HandS.SortKw
import HandS.Wide
import HandS.Zip
import HandS.DictComp
import HandS.Conv
import HandS.Style
import HandS.OwnEq
import HandS.MakeKwOnly
import KE.DataMinMax
import KE.DataEq
import PySem.Challenge.RW_berths_k52_no_room
import HandS.HeadHook1
import HandS.HeadHook2
import KE.SortLaws
import KE.KStateDown
import Lean
import HandS.Base
import HandS.Call
import HandS.Ends
import HandS.More
import HandS.Words
import HandS.WordsExc
import HandS.Head0
import HandS.Head1
import HandS.Head2
import HandS.HeadEnd
import HandS.ExcInit
import HandS.Walk
import HandS.Nested
import KE.KDictPairs
import KE.RegKCallOwn
import PyProof.ReprRoads
import PyProof.Rows.ReprR
import HandS.Comp
import HandS.Exc
import KE.GoesComp
import KE.GoesRaise
import KE.KAsSuite
import HandS.ExcOwn
import HandS.TryOnly
import HandS.ExcField
import HandS.HotCalls
import HandS.Hot
import HandS.ExcIs
import KE.KUnpackStar
import HandS.FStr
import HandS.Codes
import HandS.CallSlots
import HandS.TupAny
import HandS.ExcInitHot
set_option Elab.async false
set_option linter.all false
set_option maxRecDepth 100000
set_option maxHeartbeats 4000000
/-! Rules of our own over the hand layer: data by Tp, isinstance of data, sorted and order of data, enumerate of a tuple. -/
namespace Ba
open PySem PySem.Spec PyProof.Rows L2

/-! ### immutable data -/
mutual
inductive Tp (H : Hp) : V → PyData → Prop
  | non : Tp H .non .none
  | bl (b : Bool) : Tp H (.bl b) (.bool b)
  | int (i : Int) : Tp H (.int i) (.int i)
  | str (x : Str) : Tp H (.str x) (.str x)
  | tup {a : Addr} {xs : List V} {ds : List PyData} : H a = some (.tup xs) → TpAll H xs ds → Tp H (.ref a) (.tuple ds)
inductive TpAll (H : Hp) : List V → List PyData → Prop
  | nil : TpAll H [] []
  | cons {v : V} {vs : List V} {d : PyData} {ds : List PyData} : Tp H v d → TpAll H vs ds → TpAll H (v :: vs) (d :: ds)
end
/-- tuples stay -/
def TK (H H' : Hp) : Prop := ∀ a xs, H a = some (.tup xs) → H' a = some (.tup xs)
theorem TK.refl (H : Hp) : TK H H := fun _ _ h => h
theorem TK.trans {H H1 H2 : Hp} (a : TK H H1) (b : TK H1 H2) : TK H H2 := fun p xs h => b p xs (a p xs h)
theorem TK.new {H : Hp} {p : Addr} {o : HO} (h : H p = none) : TK H (upd H p o) := fun a xs e => by
  rw [upd_ne (ne_of_none e h)]; exact e
mutual
theorem Tp.mono {H H' : Hp} (k : TK H H') : ∀ (d : PyData) (v : V), Tp H v d → Tp H' v d
  | .none, _, h => by cases h; exact .non
  | .bool _, _, h => by cases h; exact .bl _
  | .int _, _, h => by cases h; exact .int _
  | .str _, _, h => by cases h; exact .str _
  | .list _, _, h => by cases h
  | .dict _, _, h => by cases h
  | .tuple ds, _, h => by
    cases h with
    | tup h1 h2 => exact .tup (k _ _ h1) (TpAll.mono k ds _ h2)
theorem TpAll.mono {H H' : Hp} (k : TK H H') : ∀ (ds : List PyData) (vs : List V), TpAll H vs ds → TpAll H' vs ds
  | [], _, h => by cases h; exact .nil
  | d :: ds, _, h => by
    cases h with
    | cons h1 h2 => exact .cons (Tp.mono k d _ h1) (TpAll.mono k ds _ h2)
end
mutual
theorem Tp.dp {K : PySem.W.Frag} {H : Hp} : ∀ (d : PyData) (v : V), Tp H v d → Dp K H v d
  | .none, _, h => by cases h; exact .non
  | .bool _, _, h => by cases h; exact .bl _
  | .int _, _, h => by cases h; exact .int _
  | .str _, _, h => by cases h; exact .str _
  | .list _, _, h => by cases h
  | .dict _, _, h => by cases h
  | .tuple ds, _, h => by
    cases h with
    | tup h1 h2 => exact .tup (SqT.of h1) (TpAll.dp ds _ h2)
theorem TpAll.dp {K : PySem.W.Frag} {H : Hp} : ∀ (ds : List PyData) (vs : List V), TpAll H vs ds → DpAll K H vs ds
  | [], _, h => by cases h; exact .nil
  | d :: ds, _, h => by
    cases h with
    | cons h1 h2 => exact .cons (Tp.dp d _ h1) (TpAll.dp ds _ h2)
end
theorem TpAll.length {H : Hp} : ∀ {vs : List V} {ds : List PyData}, TpAll H vs ds → vs.length = ds.length
  | _, _, .nil => rfl
  | _, _, .cons _ t => by rw [List.length_cons, List.length_cons, TpAll.length t]
theorem TpAll.get {H : Hp} : ∀ {vs : List V} {ds : List PyData} {i : Nat} {v : V}, TpAll H vs ds → vs[i]? = some v → ∃ d, ds[i]? = some d ∧ Tp H v d
  | _, _, _, _, .nil, e => by simp at e
  | _, _, 0, _, .cons h _, e => by simp at e; subst e; exact ⟨_, rfl, h⟩
  | _, _, i + 1, v, .cons _ t, e => by
    obtain ⟨d, h1, h2⟩ := TpAll.get (i := i) t (by simpa using e)
    exact ⟨d, by simpa using h1, h2⟩
theorem TpAll.getD {H : Hp} : ∀ {vs : List V} {ds : List PyData} {i : Nat} {d : PyData}, TpAll H vs ds → ds[i]? = some d → ∃ v, vs[i]? = some v ∧ Tp H v d
  | _, _, _, _, .nil, e => by simp at e
  | _, _, 0, _, .cons h _, e => by simp at e; subst e; exact ⟨_, rfl, h⟩
  | _, _, i + 1, d, .cons _ t, e => by
    obtain ⟨v, h1, h2⟩ := TpAll.getD (i := i) t (by simpa using e)
    exact ⟨v, by simpa using h1, h2⟩
theorem TpAll.append {H : Hp} : ∀ {vs ws : List V} {ds es : List PyData}, TpAll H vs ds → TpAll H ws es → TpAll H (vs ++ ws) (ds ++ es)
  | _, _, _, _, .nil, s => s
  | _, _, _, _, .cons h t, s => .cons h (TpAll.append t s)

/-! ### the kind of a datum -/
def tyN : PyData → String
  | .none => "NoneType"
  | .bool _ => "bool"
  | .int _ => "int"
  | .str _ => "str"
  | .list _ => "list"
  | .tuple _ => "tuple"
  | .dict _ => "dict"
theorem sqL_ty {K : PySem.W.Frag} {H : Hp} {a : Addr} {xs : List V} (h : SqL K H a xs) : TyX K H (.ref a) (.type "list") := by
  rcases h with h | ⟨o, its, n, h1, h2, _⟩
  · rcases h with h | ⟨o, h⟩
    · exact .base (.lst h)
    · exact .base (.frz h)
  · exact .kList h1 h2
theorem sqT_ty {K : PySem.W.Frag} {H : Hp} {a : Addr} {xs : List V} (h : SqT K H a xs) : TyX K H (.ref a) (.type "tuple") := by
  rcases h with h | ⟨o, its, n, h1, h2, _⟩
  · rcases h with h | ⟨o, h⟩
    · exact .base (.tup h)
    · exact .fTuple h
  · exact .kTuple h1 h2
theorem dp_ty {K : PySem.W.Frag} {H : Hp} {v : V} {d : PyData} (h : Dp K H v d) : TyX K H v (.type (tyN d)) := by
  cases h with
  | non => exact .base .non
  | bl b => exact .base (.bl b)
  | int i => exact .base (.int i)
  | str x => exact .base (.str x)
  | lst h _ => exact sqL_ty h
  | tup h _ => exact sqT_ty h
/-- isinstance(x, T), x of the kind t: the answer -/
def isA (t T : String) : Bool := (kitB t T).getD false
def rIsA (K : PySem.W.Frag) : List V → Hp → VK → Prop := fun xs H Q => ∃ (x : V) (t T : String) (b : Bool), xs = [x, .ty T] ∧ TyX K H x (.type t) ∧ kitB t T = some b ∧ Q (.bl b) H
theorem call_isA {X : Cx} : CallR X (.builtin "isinstance") (rIsA X.K) := by
  intro pins s σ H xs us Q I r h
  obtain ⟨x, t, T, b, rfl, ty, e, q⟩ := h
  exact call_isi pins s σ H _ us Q I r ⟨x, .ty T, _, _, b, rfl, .ty T, ty, kit_ty e, q⟩

/-! ### sorted of a list of data -/
section
variable {α : Type}
/-- sorted(xs): xs reads as bs.map enc; the values behind read as the sorted ones -/
def rSortD (K : PySem.W.Frag) (enc : α → PyData) : List V → Hp → VK → Prop := fun vs H Q => ∃ (a : Addr) (xs : List V) (bs : List α), vs = [V.ref a] ∧ SqL K H a xs ∧ TpAll H xs (bs.map enc) ∧
  (∀ b b', PySem.W.alike (enc b) (enc b') = true) ∧ (∀ b, ∃ x r, enc b = .tuple (x :: r)) ∧ (∀ b, (enc b).depth ≤ 60) ∧
  ∀ (ys : List V) (p : Addr), TpAll H ys ((bs.mergeSort (PySem.W.dataLe false enc)).map enc) → ys.length = bs.length → H p = none → Q (.ref p) (upd H p (.lst ys))
theorem each_of {X : Cx} {pins : List (Addr × Obj)} {s : Shared} {σ : L2.St} {H : Hp} (I : Inv X pins σ H s) (enc : α → PyData) : ∀ {bs : List α} {xs : List V} {us : List Value}, TpAll H xs (bs.map enc) → Vals xs us →
    PySem.W.EachIs (fun v b => ∃ x, RelV x v ∧ Tp H x (enc b)) us bs ∧ PySem.W.EachIs (fun v b => ∃ as, Reads s.heap v (enc b) as) us bs
  | [], _, _, h, r => by cases h; cases r; exact ⟨.nil, .nil⟩
  | b :: bs, _, _, h, r => by
    cases h with
    | cons h1 h2 =>
      cases r with
      | cons r1 r2 =>
        obtain ⟨e1, e2⟩ := each_of I enc h2 r2
        exact ⟨.cons ⟨_, r1, h1⟩ e1, .cons (Dp.reads I _ _ _ (Tp.dp _ _ h1) r1) e2⟩
theorem each_back {H : Hp} (enc : α → PyData) : ∀ {us : List Value} {bs : List α}, PySem.W.EachIs (fun v b => ∃ x, RelV x v ∧ Tp H x (enc b)) us bs → ∃ ys, Vals ys us ∧ TpAll H ys (bs.map enc)
  | _, _, .nil => ⟨[], .nil, .nil⟩
  | _, _, .cons ⟨x, r, h⟩ t => by
    obtain ⟨ys, r2, h2⟩ := each_back enc t
    exact ⟨x :: ys, .cons r r2, .cons h h2⟩
theorem cr_sortD {X : Cx} (hu : X.A.units + 64 < cLine) (enc : α → PyData) : CallR X (.builtin "sorted") (rSortD X.K enc) := by
  intro pins s σ H vs us Q I r h
  obtain ⟨a, xs, bs, rfl, hs, ht, hal, hk, hd, q⟩ := h
  obtain ⟨its, rv, hl, hz⟩ := I.list hs
  rw [Vals.ref1 r]
  obtain ⟨e1, e2⟩ := each_of I enc ht rv
  have hlb : xs.length = bs.length := by rw [ht.length, List.length_map]
  refine PySem.W.sorted_data hl.isList e1 e2 (PySem.W.AllAlike.of hal) (PySem.W.Sortable.tuples hk) (by omega) (fun b _ => by have := hd b; omega) fun out ho he => ?_
  obtain ⟨ys, r2, h2⟩ := each_back enc he
  obtain ⟨ep, he'⟩ := PyProof.Rows.sortedAll_at s.heap its out.toArray
  have hly : ys.length = bs.length := by rw [r2.length, ho]
  exact ⟨.ref _, upd H (s.heap.objs.size + 1) (.lst ys), I.laid (t' := s.toks) (fun _ _ => PyProof.Rows.sortedAll_old) (Nat.le_succ _) ⟨by rw [hly]; omega, out, ep, r2, he'⟩, rfl, q ys _ h2 hly (I.hok.fresh (Nat.le_succ _))⟩
end
end Ba

set_option maxHeartbeats 4000000
/-! Rules of our own over the hand layer: order, in, max of data; enumerate of a tuple; powers; len of an own instance. -/
namespace Ba
open PySem PySem.Spec PyProof.Rows L2
section
variable {X : Cx}
/-! ### order, equality, membership of immutable data -/
def rLtD : R2 := fun x y H Q => ∃ d e, Tp H x d ∧ Tp H y e ∧ PySem.W.alike d e = true ∧ d ≠ .none ∧ d.depth ≤ 60 ∧ Q (.bl (PySem.W.dataLt d e)) H
def rGtD : R2 := fun x y H Q => ∃ d e, Tp H x d ∧ Tp H y e ∧ PySem.W.alike d e = true ∧ d ≠ .none ∧ d.depth ≤ 60 ∧ Q (.bl (PySem.W.dataLt e d)) H
theorem op_ltD (hu : X.A.units + 64 < cLine) : OpR X (compareOp .Lt) rLtD := by
  intro pins s σ H x y v u Q I rx ry h
  obtain ⟨d, e, hd, he, ha, hn, hz, q⟩ := h
  obtain ⟨as, r1⟩ := Dp.reads I d x v (Tp.dp _ _ hd) rx
  obtain ⟨bs, r2⟩ := Dp.reads I e y u (Tp.dp _ _ he) ry
  exact PySem.W.lt_data r1 r2 ha hn (by omega) ⟨.bl _, H, I, rfl, q⟩
theorem op_gtD (hu : X.A.units + 64 < cLine) : OpR X (compareOp .Gt) rGtD := by
  intro pins s σ H x y v u Q I rx ry h
  obtain ⟨d, e, hd, he, ha, hn, hz, q⟩ := h
  obtain ⟨as, r1⟩ := Dp.reads I d x v (Tp.dp _ _ hd) rx
  obtain ⟨bs, r2⟩ := Dp.reads I e y u (Tp.dp _ _ he) ry
  exact PySem.W.gt_data r1 r2 ha hn (by omega) ⟨.bl _, H, I, rfl, q⟩
/-- == of data that Dp tells -/
def rEqP (K : PySem.W.Frag) : R2 := fun x y H Q => ∃ d e, Dp K H x d ∧ Dp K H y e ∧ d.plain = true ∧ e.plain = true ∧ d.depth ≤ 60 ∧ Q (.bl (PyData.eqv d e)) H
def rNeP (K : PySem.W.Frag) : R2 := fun x y H Q => ∃ d e, Dp K H x d ∧ Dp K H y e ∧ d.plain = true ∧ e.plain = true ∧ d.depth ≤ 60 ∧ Q (.bl (!PyData.eqv d e)) H
theorem op_eqP (hu : X.A.units + 64 < cLine) : OpR X (compareOp .Eq) (rEqP X.K) := by
  intro pins s σ H x y v u Q I rx ry h
  obtain ⟨d, e, hd, he, pd, pe, hz, q⟩ := h
  obtain ⟨as, r1⟩ := Dp.reads I d x v hd rx
  obtain ⟨bs, r2⟩ := Dp.reads I e y u he ry
  exact SeqAt.eq_plain r1 r2 pd pe (by omega) ⟨.bl _, H, I, rfl, q⟩
theorem op_neP (hu : X.A.units + 64 < cLine) : OpR X (compareOp .NotEq) (rNeP X.K) := by
  intro pins s σ H x y v u Q I rx ry h
  obtain ⟨d, e, hd, he, pd, pe, hz, q⟩ := h
  obtain ⟨as, r1⟩ := Dp.reads I d x v hd rx
  obtain ⟨bs, r2⟩ := Dp.reads I e y u he ry
  exact SeqAt.ne_plain r1 r2 pd pe (by omega) ⟨.bl _, H, I, rfl, q⟩
/-- x in (a, b, ..), x not in (a, b, ..) -/
def rInP (K : PySem.W.Frag) (neg : Bool) : R2 := fun x y H Q => ∃ d es, Dp K H x d ∧ Dp K H y (.tuple es) ∧ d.plain = true ∧ PyData.plainAll es = true ∧ d.depth ≤ 60 ∧ Q (.bl (if neg then !(es.any fun z => PyData.eqv z d) else es.any fun z => PyData.eqv z d)) H
theorem op_inP (hu : X.A.units + 64 < cLine) : OpR X (compareOp .In) (rInP X.K false) := by
  intro pins s σ H x y v u Q I rx ry h
  obtain ⟨d, es, hd, he, pd, pe, hz, q⟩ := h
  obtain ⟨as, r1⟩ := Dp.reads I d x v hd rx
  obtain ⟨bs, r2⟩ := Dp.reads I _ y u he ry
  exact SeqAt.in_tuple_data r2 r1 pe pd (by omega) ⟨.bl _, H, I, rfl, q⟩
theorem op_notInP (hu : X.A.units + 64 < cLine) : OpR X (compareOp .NotIn) (rInP X.K true) := by
  intro pins s σ H x y v u Q I rx ry h
  obtain ⟨d, es, hd, he, pd, pe, hz, q⟩ := h
  obtain ⟨as, r1⟩ := Dp.reads I d x v hd rx
  obtain ⟨bs, r2⟩ := Dp.reads I _ y u he ry
  exact SeqAt.notIn_tuple_data r2 r1 pe pd (by omega) ⟨.bl _, H, I, rfl, q⟩

/-! ### max(xs, default=d), ints -/
theorem alike_int (ns : List Int) : PySem.W.AlikeAll (ns.map .int) := by
  refine ⟨fun x hx y hy => ?_, fun x hx => ?_⟩
  · obtain ⟨i, _, rfl⟩ := List.mem_map.mp hx
    obtain ⟨j, _, rfl⟩ := List.mem_map.mp hy
    rfl
  · obtain ⟨i, _, rfl⟩ := List.mem_map.mp hx
    intro z
    cases z
theorem dp_ints {K : PySem.W.Frag} {H : Hp} : ∀ ns : List Int, DpAll K H (ns.map V.int) (ns.map PyData.int)
  | [] => .nil
  | n :: ns => .cons (.int n) (dp_ints ns)
def maxI : List Int → Int → Int
  | [], d => d
  | n :: ns, _ => ns.foldl max n
def rMaxDef (K : PySem.W.Frag) : List V → List V → Hp → VK → Prop := fun vs zs H Q => ∃ (a : Addr) (ns : List Int) (d : Int), vs = [V.ref a] ∧ zs = [V.int d] ∧ SqL K H a (ns.map V.int) ∧ Q (.int (maxI ns d)) H
theorem depth_int : ∀ ns : List Int, PyData.depthAll (ns.map .int) = 0 := PySem.W.depth_ints
theorem cr_maxDef (hc : X.calm = true) (hu : X.A.units + 64 < cLine) : CallRK X (.builtin "max") [Str.ofString "default"] (rMaxDef X.K) := by
  intro pins s σ H vs zs us ws Q I r rz h
  obtain ⟨a, ns, d, rfl, rfl, hs, q⟩ := h
  obtain rfl := Vals.ref1 r
  obtain ⟨w1, rfl, t, e1⟩ := vals1 rz
  obtain ⟨its, rv, hl, hz⟩ := I.list hs
  obtain ⟨as, hr⟩ := Dp.readsAll I _ _ _ (dp_ints ns) rv
  refine PySem.W.max_list_default (xs := ns.map .int) (I.ok.hd hc) hl.isList (by simpa using hr) (alike_int ns) (by rw [depth_int]; omega) (fun he h' tk k => ?_) (fun y ys i v h' tk bs he hv hr' k => ?_)
  · cases ns with
    | nil => exact ⟨.int d, H, I.kept k, ⟨t, e1⟩, q⟩
    | cons n ns => cases he
  · cases ns with
    | nil => cases he
    | cons n ns =>
      cases he
      rw [PySem.W.maxD_ints] at hr'
      cases hr' with
      | int _ t' => exact ⟨.int _, H, I.kept k, ⟨_, rfl⟩, q⟩

/-! ### powers of great ints -/
def CPowW (i j : Int) : Prop := 0 ≤ j ∧ j ≤ 1000 ∧ i.natAbs < 2 ^ 100000
theorem op_powW : OpR X (binaryOp .Pow) (rI CPowW fun i j => .int (i ^ j.toNat)) := opI fun i j _ _ _ _ _ hc q => by
  obtain ⟨h0, h1, h2⟩ := hc
  refine pow_int h0 ?_ q
  have hb : Builtin.Int.intBits i ≤ 100000 := intBits_le h2
  have h3 : (Builtin.Int.intBits i : Int) * j ≤ 100000 * 1000 := Int.mul_le_mul (by omega) h1 h0 (by omega)
  have h4 : ((100000 * 1000 : Int)) ≤ 2 ^ 27 := by decide
  exact Int.le_trans h3 h4

/-! ### len of an own instance by its __len__ -/
theorem one_len {C f : Addr} {fd : FuncData} {ps : List Str} {sp : Sp} {CX : CXT} {k : Nat} {E : XK} (F : FnOk X.prog X.w X.K X.mg X.base CX k f fd ps sp) (hr : Room (k + 1) X.A)
    (hs : PySem.W.findIn X.K (.ref C) "__len__" = some (some (.ref f))) (hf : PySem.W.isFn X.K (.ref f) = true) (hb : Binds X.K fd ps []) (hx : Passes CX X E) :
    CallR X (.builtin "len") (fun xs H Q => ∃ a dx fs, xs = [V.ref a] ∧ H a = some (.ins C dx fs) ∧ sp [.ref a] H (fun v H' => ∃ n : Int, v = .int n ∧ 0 ≤ n ∧ n < 2 ^ 63 ∧ Q (.int n) H') E) := by
  intro pins s σ H xs us Q I r h
  obtain ⟨a, dx, fs, rfl, ha, hsp⟩ := h
  obtain rfl := Vals.ref1 r
  obtain ⟨mA, J, _⟩ := ins_get I.hok ha
  obtain ⟨od, J, _⟩ := J.look
  obtain ⟨m, hF⟩ := I.fr
  refine PySem.W.len_K hF I.ok.mod.kin J hs hf ?_
  have hl := F.len _ _ _ _ hsp
  have r2 : Vals [V.ref a] [Value.ref a] := .cons rfl .nil
  have e0 : Env0 X.prog X.w X.K X.mg X.base X.A.in1 X.stack s H := I.env0.in1
  refine wpAny_call (codeAny_mono (F.run X.A.in1 X.stack s H ⟨[.ref a], []⟩ [.ref a] [.ref a] _ E hr.in1 e0 (by
    have := hb s [.ref a] I.kIn (by simpa using hl)
    simpa using this) r2 hsp) fun r s' hq => ?_)
  cases r with
  | error e => exact hx pins σ H s e s' I hq
  | ok fl =>
    cases fl with
    | ret w =>
      obtain ⟨z, H', I', rz, n, ez, h0, h1, q⟩ := I.after hq
      subst ez
      obtain ⟨t, rfl⟩ := rz
      exact ⟨⟨h0, h1⟩, .int n, H', I'.tok _, ⟨_, rfl⟩, q⟩
    | next => exact False.elim hq
    | brk => exact False.elim hq
    | cont => exact False.elim hq
end

/-! ### enumerate(tuple) -/
set_option maxHeartbeats 1000000 in
theorem meets_enumerate_newT {v : Value} {o : Obj} {H : Heap → Prop} (B : Begins v o H) :
    Meets (Builtin.«enumerate.__new__» ⟨[.type "enumerate", v], []⟩) (fun _ R s => H s.heap ∧
      R (.ok (.ret (.ref (s.heap.push o).objs.size))) { s with heap := (s.heap.push o).push { cls := .type "enumerate", data := .fields #[.none, .bool false, .ref s.heap.objs.size, rawInt 0, .none, .none] } }) :=
  .of_wp fun prog w A R s h => by
    obtain ⟨hp, g, d, tk, os⟩ := s; obtain ⟨h1, h⟩ := h
    have hsub := sub_enumerate
    have q1 : ∀ {A' : Around} {E : Value → Shared → Prop} {Q : Value → Shared → Prop}, Q (.ref hp.objs.size) ⟨hp.push o, g, d, tk, os⟩ → wpAny (model prog w) A' (pyIter v) Q E ⟨hp, g, d, tk, os⟩ :=
      fun q => B.iter prog w _ _ ⟨hp, g, d, tk, os⟩ _ h1 q
    wp_walk using q1
    refine wpAny_stack_any fun st => wpAny_pure ?_
    split
    · rename_i c _ _ _ _ _
      cases (c == Value.type "enumerate")
      · wp_walk using q1
        exact ⟨_, rfl, h⟩
      · wp_walk using q1
        exact ⟨_, rfl, h⟩
    · wp_walk using q1
      exact ⟨_, rfl, h⟩
section
variable {prog : Program} {w : World} {A : Around} {E : Value → Shared → Prop} {s : Shared}
theorem enum_beginsT {v : Value} {o : Obj} {H : Heap → Prop} {Q : Value → Shared → Prop} (B : Begins v o H) (h1 : H s.heap)
    (h : ∀ h', IsEnum h' (s.heap.objs.size + 1) s.heap.objs.size 0 .none → h'.get? s.heap.objs.size = some o → h'.objs.size = s.heap.objs.size + 2 →
      (∀ b o, s.heap.get? b = some o → h'.get? b = some o) → Q (.ref (s.heap.objs.size + 1)) { s with heap := h' }) :
    wpAny (model prog w) A (call (.type "enumerate") [v]) Q E s := by
  refine callType_new F.called_enumerate (by decide) (F.typeCall_enumerate_1 _) (F.newCall_enumerate_1 _) (fun obj => F.args_object_init_2 obj _) F.entry_enumerate_new
    (meets_enumerate_newT B) ⟨h1, ?_⟩
  have hz : (s.heap.push o).objs.size = s.heap.objs.size + 1 := Heap.size_push ..
  show _ ∧ _
  rw [hz]
  have he : IsEnum ((s.heap.push o).push { cls := .type "enumerate", data := .fields #[.none, .bool false, .ref s.heap.objs.size, rawInt 0, .none, .none] }) (s.heap.objs.size + 1) s.heap.objs.size 0 .none := by
    have := Heap.get?_push_size (s.heap.push o) (o := { cls := .type "enumerate", data := .fields #[.none, .bool false, .ref s.heap.objs.size, rawInt 0, .none, .none] }) rfl
    rw [hz] at this; exact this
  refine ⟨⟨_, he, rfl⟩, h _ he (Heap.get?_push_of_some _ (Heap.get?_push_size _ B.free)) (by rw [Heap.size_push, hz]) fun b o x => Heap.get?_push_of_some _ (Heap.get?_push_of_some _ x)⟩
end
section
variable {prog : Program} {w : World} {A : Around} {E : Value → Shared → Prop} {s : Shared}
theorem enum_end_tuple {e it t : Addr} {i : Nat} {c : Int} {items : Array Value} {old : Value} {Q : Option Value → Shared → Prop} (hh : A.handled = none)
    (he : IsEnum s.heap e it c old) (hit : s.heap.IsTupleIter it t i) (hl : s.heap.IsTuple t items) (hx : items[i]? = none)
    (hQ : ∀ h', Heap.ExtBut it s.heap h' → Q none { s with heap := h' }) : wpAny (model prog w) A (pyNext (.ref e)) Q E s := by
  have hT : s.TypeIs (.ref e) "enumerate" := ⟨_, he, rfl⟩
  unfold pyNext
  refine wpAny_bind (wpAny_attempt (wpAny_callSpecial?_slot (name := Str.ofString "__next__") hT F.slot_enumerate_next
    (wpAny_call_entry F.slot_enumerate_next hT F.entry_enumerate_next ?_ (F.args_enumerate_next_1 _))))
  show wpAny _ _ (field (.ref e) 2 >>= _) _ _ _
  refine wpAny_bind (wpAny_field he rfl (x := .ref it) rfl ?_)
  refine wpAny_bind (wpAny_nextOf_tuple_end hh hit hl hx fun h' x he' hx' => ?_)
  obtain ⟨o, ho, hc⟩ := hx'
  refine wpAny_bind (wpAny_isInstance (T := "StopIteration") (b := true) ⟨o, ho, hc⟩ isSubtype_stop ?_)
  exact wpAny_pure (hQ _ he')
end
/-- the tuple at a, each item in a new pair -/
def Itet (K : PySem.W.Frag) (a : Addr) : It :=
  ⟨fun i H => ∃ (xs : List V) (x : V), SqT K H a xs ∧ xs[i]? = some x, fun i H v H' => ∃ T x, v = .ref T ∧ H T = none ∧ H' = upd H T (.tup [.int (i : Nat), x]) ∧ ∀ xs, SqT K H a xs → xs[i]? = some x, fun i H => ∃ xs : List V, SqT K H a xs ∧ xs.length ≤ i⟩
theorem turn_enumT {P : Program} {w : World} {K : PySem.W.Frag} {elts : List Expr} {kk : Nat} {tpos : Pos} (a e it : Addr) :
    Turn P w K (.Tuple elts kk tpos) (Itet K a) [e, it] e (fun i h => (∃ old, IsEnum h e it ((i : Nat) : Int) old) ∧ h.IsTupleIter it a i ∧ e ≠ it ∧ a ≠ it ∧ e ≠ a) where
  mem := by simp
  obj := fun i h st b hb => by
    obtain ⟨⟨old, he⟩, ⟨o, ho, hc, hd⟩, _⟩ := st
    have e' : b = e ∨ b = it := by simpa using hb
    rcases e' with z | z
    · rw [z]; exact ⟨_, he, fun v q => nomatch q⟩
    · rw [z]; exact ⟨o, ho, fun v q => by rw [hd] at q; cases q⟩
  keep := fun i h h' st k => let ⟨⟨old, he⟩, hi, hne⟩ := st; ⟨⟨old, k e (by simp) _ he⟩, hi.at fun o q => k it (by simp) o q, hne⟩
  item := by
    intro X hP hw hK hc i pins s σ H E I hf st hg
    subst hP hw hK
    obtain ⟨⟨old, he⟩, hit, hne, hai, hea⟩ := st
    obtain ⟨xs, x, hq, hx⟩ := hg
    obtain ⟨its, rv, p, hz⟩ := I.tuple hq
    have hlen := rv.length
    obtain ⟨u, hu, ru⟩ := rv.get hx
    have hil' : i < its.toArray.size := by
      have := (List.getElem?_eq_some_iff.mp hu).1
      simpa using this
    have hel : e < s.heap.objs.size := Heap.lt_size he
    have hil : it < s.heap.objs.size := by obtain ⟨_, q, _⟩ := hit; exact Heap.lt_size q
    refine wpAny_pyNext_enum_itemD (Draws.tuple (prog := X.prog) (w := X.w) (A := X.A.in1) (I.ok.hd hc) it a hai its.toArray) he ⟨hit, p⟩ hil' hne (by simp [hne, hea]) fun x' h' tk hP ho hs' hT hsz hk => ?_
    have hxu : x' = u := by
      have h1 : its.toArray[i]? = some u := by simpa using hu
      exact Option.some.inj (hP.symm.trans h1)
    subst hxu
    refine ⟨_, rfl, wpAny_letOwnedTupleGo_enum (s := { s with heap := h', toks := tk + 1 }) ho fun h'' he' sb => ?_⟩
    have hT2 : h''.get? s.heap.objs.size = some { cls := .type "tuple", data := .seq #[.int i tk, x'] } := (sb.2 _ (Nat.ne_of_gt hel)).trans hT
    have new : ObjOk X.prog X.w (upd H s.heap.objs.size (.tup [.int (i : Nat), x])) h'' s.heap.objs.size (.tup [.int (i : Nat), x]) :=
      ⟨by show 2 ≤ sizeLine; decide, [.int i tk, x'], .cons ⟨_, rfl⟩ (.cons ru .nil), ⟨_, hT2, rfl, _, rfl⟩⟩
    have I1 : Inv X pins σ (upd H s.heap.objs.size (.tup [.int (i : Nat), x])) { s with heap := h'', toks := tk + 1 } :=
      I.turnedNew (ch := [e, it]) (fun b ob hb q => (sb.2 b (fun z => hb (by simp [z]))).trans (hk b ob (fun z => hb (by simp [z])) (fun z => hb (by simp [z])) q)) hf (Nat.le_refl _) new
    refine ⟨.ref s.heap.objs.size, _, I1, rfl, ⟨_, x, rfl, I.hok.fresh (Nat.le_refl _), rfl, fun ys hy => by rw [I.tuple_inj hy hq]; exact hx⟩, ⟨⟨x', ?_⟩, hs'.1.at fun o q => (sb.2 it (Ne.symm hne)).trans q, hne, hai, hea⟩, fun b hb => ?_⟩
    · have e1 : ((i + 1 : Nat) : Int) = (i : Int) + 1 := by omega
      rw [e1]; exact he'
    · have hb' : b < s.heap.objs.size := by
        have e' : b = e ∨ b = it := by simpa using hb
        rcases e' with z | z
        · rw [z]; exact hel
        · rw [z]; exact hil
      rw [upd_ne (Nat.ne_of_lt hb')]
      exact (hf b hb).1
  done := by
    intro X hP hw hK hc i pins s σ H E I hf st hg
    subst hP hw hK
    obtain ⟨⟨old, he⟩, hit, hne, hai, hea⟩ := st
    obtain ⟨xs, hq, hx⟩ := hg
    obtain ⟨its, rv, p, hz⟩ := I.tuple hq
    obtain ⟨f0, f1, f2, f3, f4, f5⟩ := hf it (by simp)
    have hl := rv.length
    exact enum_end_tuple (I.ok.hd hc) he hit p (by simp; omega) fun h' eb => ⟨rfl, I.turned (t' := s.toks) (fun b o hb q => eb b o hb q) f0 f1 f3 f4 f5⟩
  self := fun A i s Q E st h => let ⟨⟨_, he⟩, _⟩ := st; wpAny_pyIter_enum he h
def iEnumT (K : PySem.W.Frag) (ta : TA) : TI := fun σ H R => ta σ H fun vs H1 => ∃ a xs, vs = [.ref a] ∧ SqT K H1 a xs ∧ R (Itet K a) H1
theorem pi_enumT {X : Cx} {e : Expr} {ta : TA} {p pos tpos : Pos} {elts : List Expr} {kk : Nat} (hg : Gl X "enumerate") (hm : X.mg "enumerate" = none) (ha : PA X [e] ta) (hs : starEach [e] X.env = [(false, eval e X.env)] := by rfl) :
    PI X (.Tuple elts kk tpos) (.Call (.Name "enumerate" p) [e] [] pos) (iEnumT X.K ta) := by
  refine ⟨fun pins s σ H R I h => ?_⟩
  refine Call_ (ld_blt I hg hm boot_enumerate (PyProof.Rows.callWith_type1 (thn (ha.run pos pins s σ H _ I h) fun us s1 ⟨vs, H1, I1, r1, q1⟩ => ?_) hs rfl))
  obtain ⟨a, xs, ex, hq, q⟩ := q1
  subst ex
  cases r1 with
  | cons r rr =>
    cases rr
    cases r
    obtain ⟨its, rv, p', hz⟩ := I1.tuple hq
    have hal : a < s1.heap.objs.size := by obtain ⟨o, ho, _⟩ := p'; exact Heap.lt_size ho
    refine enum_beginsT (begins_tuple a its.toArray) p' fun h' he hit hsz hk => wpAny_pyIter_enum he ?_
    have I2 : Inv X pins σ H1 { s1 with heap := h' } := I1.kept (t' := s1.toks) hk
    refine ⟨s1.heap.objs.size + 1, [s1.heap.objs.size + 1, s1.heap.objs.size], _, _, H1, rfl, I2, turn_enumT a (s1.heap.objs.size + 1) s1.heap.objs.size, ⟨⟨.none, he⟩, ⟨_, hit, rfl, rfl⟩, Nat.succ_ne_self _, Nat.ne_of_lt hal, Nat.ne_of_gt (Nat.lt_succ_of_lt hal)⟩, fun b hb => ?_, q⟩
    have e' : b = s1.heap.objs.size + 1 ∨ b = s1.heap.objs.size := by simpa using hb
    have hle : s1.heap.objs.size ≤ b := by
      rcases e' with z | z
      · rw [z]; exact Nat.le_add_right _ _
      · rw [z]; exact Nat.le_refl _
    exact I1.fpOk hle (I1.hok.fresh hle)
end Ba

set_option maxHeartbeats 4000000
namespace Ba
open PySem PySem.Spec PyProof.Rows L2
def topS (i : Nat) : Stmt := PySem.Challenge.pw_berths_k52_no_room.main.body.getD i (.Pass ⟨0, 0, 0, 0⟩)
abbrev s_NoRoom_init : Stmt := inClass (topS 14) 0
abbrev n_NoRoom_init : List Str := ["self", "on_day", "ship"]
abbrev p_NoRoom_init : List Str := ["self", "on_day", "ship"]
theorem sc_NoRoom_init : FnScope n_NoRoom_init p_NoRoom_init (defScope s_NoRoom_init) := ⟨rfl, rfl, rfl, by decide +kernel, rfl, by decide +kernel, by decide +kernel⟩
abbrev s_TooLong_init : Stmt := inClass (topS 15) 0
abbrev n_TooLong_init : List Str := ["self", "days"]
abbrev p_TooLong_init : List Str := ["self", "days"]
theorem sc_TooLong_init : FnScope n_TooLong_init p_TooLong_init (defScope s_TooLong_init) := ⟨rfl, rfl, rfl, by decide +kernel, rfl, by decide +kernel, by decide +kernel⟩
abbrev s_is_int : Stmt := topS 26
abbrev n_is_int : List Str := ["value"]
abbrev p_is_int : List Str := ["value"]
theorem sc_is_int : FnScope n_is_int p_is_int (defScope s_is_int) := ⟨rfl, rfl, rfl, by decide +kernel, rfl, by decide +kernel, by decide +kernel⟩
abbrev s_in_range : Stmt := topS 27
abbrev n_in_range : List Str := ["value", "low_end", "high_end"]
abbrev p_in_range : List Str := ["value", "low_end", "high_end"]
theorem sc_in_range : FnScope n_in_range p_in_range (defScope s_in_range) := ⟨rfl, rfl, rfl, by decide +kernel, rfl, by decide +kernel, by decide +kernel⟩
abbrev s_is_ship : Stmt := topS 28
abbrev n_is_ship : List Str := ["hours", "value"]
abbrev p_is_ship : List Str := ["hours", "value"]
theorem sc_is_ship : FnScope n_is_ship p_is_ship (defScope s_is_ship) := ⟨rfl, rfl, rfl, by decide +kernel, rfl, by decide +kernel, by decide +kernel⟩
abbrev s_day_events : Stmt := topS 29
abbrev n_day_events : List Str := ["table", "hours", "ships", "departures", "arrivals", "ship", "hour", "stay", "days_ago", "departure", "kind", "negative", "when"]
abbrev p_day_events : List Str := ["table"]
theorem sc_day_events : FnScope n_day_events p_day_events (defScope s_day_events) := ⟨rfl, rfl, rfl, by decide +kernel, rfl, by decide +kernel, by decide +kernel⟩
abbrev s_count_at_midnight : Stmt := topS 30
abbrev n_count_at_midnight : List Str := ["table", "hours", "ships", "found", "hour", "stay", "days_ago"]
abbrev p_count_at_midnight : List Str := ["table"]
theorem sc_count_at_midnight : FnScope n_count_at_midnight p_count_at_midnight (defScope s_count_at_midnight) := ⟨rfl, rfl, rfl, by decide +kernel, rfl, by decide +kernel, by decide +kernel⟩
abbrev s_counts : Stmt := topS 31
abbrev n_counts : List Str := ["table", "here", "found", "hour", "kind", "days_ago", "ship"]
abbrev p_counts : List Str := ["table"]
theorem sc_counts : FnScope n_counts p_counts (defScope s_counts) := ⟨rfl, rfl, rfl, by decide +kernel, rfl, by decide +kernel, by decide +kernel⟩
abbrev s_peak_of : Stmt := topS 32
abbrev n_peak_of : List Str := ["table"]
abbrev p_peak_of : List Str := ["table"]
theorem sc_peak_of : FnScope n_peak_of p_peak_of (defScope s_peak_of) := ⟨rfl, rfl, rfl, by decide +kernel, rfl, by decide +kernel, by decide +kernel⟩
abbrev s_is_table : Stmt := topS 33
abbrev n_is_table : List Str := ["value", "hours", "ships", "ship"]
abbrev p_is_table : List Str := ["value"]
theorem sc_is_table : FnScope n_is_table p_is_table (defScope s_is_table) := ⟨rfl, rfl, rfl, by decide +kernel, rfl, by decide +kernel, by decide +kernel⟩
abbrev s_require_table : Stmt := topS 34
abbrev n_require_table : List Str := ["value"]
abbrev p_require_table : List Str := ["value"]
theorem sc_require_table : FnScope n_require_table p_require_table (defScope s_require_table) := ⟨rfl, rfl, rfl, by decide +kernel, rfl, by decide +kernel, by decide +kernel⟩
abbrev s_valid_policy : Stmt := topS 40
abbrev n_valid_policy : List Str := ["table", "value"]
abbrev p_valid_policy : List Str := ["table", "value"]
theorem sc_valid_policy : FnScope n_valid_policy p_valid_policy (defScope s_valid_policy) := ⟨rfl, rfl, rfl, by decide +kernel, rfl, by decide +kernel, by decide +kernel⟩
abbrev s_require_policy : Stmt := topS 41
abbrev n_require_policy : List Str := ["table", "value"]
abbrev p_require_policy : List Str := ["table", "value"]
theorem sc_require_policy : FnScope n_require_policy p_require_policy (defScope s_require_policy) := ⟨rfl, rfl, rfl, by decide +kernel, rfl, by decide +kernel, by decide +kernel⟩
abbrev s_is_stranger : Stmt := topS 42
abbrev n_is_stranger : List Str := ["hours", "value"]
abbrev p_is_stranger : List Str := ["hours", "value"]
theorem sc_is_stranger : FnScope n_is_stranger p_is_stranger (defScope s_is_stranger) := ⟨rfl, rfl, rfl, by decide +kernel, rfl, by decide +kernel, by decide +kernel⟩
abbrev s_valid_start : Stmt := topS 43
abbrev n_valid_start : List Str := ["table", "policy", "value", "stranger", "one", "other"]
abbrev p_valid_start : List Str := ["table", "policy", "value"]
theorem sc_valid_start : FnScope n_valid_start p_valid_start (defScope s_valid_start) := ⟨rfl, rfl, rfl, by decide +kernel, rfl, by decide +kernel, by decide +kernel⟩
abbrev s_require_start : Stmt := topS 44
abbrev n_require_start : List Str := ["table", "policy", "value"]
abbrev p_require_start : List Str := ["table", "policy", "value"]
theorem sc_require_start : FnScope n_require_start p_require_start (defScope s_require_start) := ⟨rfl, rfl, rfl, by decide +kernel, rfl, by decide +kernel, by decide +kernel⟩
abbrev s_require_days : Stmt := topS 45
abbrev n_require_days : List Str := ["value", "low_end", "high_end"]
abbrev p_require_days : List Str := ["value", "low_end", "high_end"]
theorem sc_require_days : FnScope n_require_days p_require_days (defScope s_require_days) := ⟨rfl, rfl, rfl, by decide +kernel, rfl, by decide +kernel, by decide +kernel⟩
abbrev s_Dock_init : Stmt := inClass (topS 46) 0
abbrev n_Dock_init : List Str := ["self", "table", "policy", "strangers", "berth", "until"]
abbrev p_Dock_init : List Str := ["self", "table", "policy", "strangers"]
theorem sc_Dock_init : FnScope n_Dock_init p_Dock_init (defScope s_Dock_init) := ⟨rfl, rfl, rfl, by decide +kernel, rfl, by decide +kernel, by decide +kernel⟩
abbrev s_Dock_copy : Stmt := inClass (topS 46) 1
abbrev n_Dock_copy : List Str := ["self", "found"]
abbrev p_Dock_copy : List Str := ["self"]
theorem sc_Dock_copy : FnScope n_Dock_copy p_Dock_copy (defScope s_Dock_copy) := ⟨rfl, rfl, rfl, by decide +kernel, rfl, by decide +kernel, by decide +kernel⟩
abbrev s_Dock_leave_until : Stmt := inClass (topS 46) 2
abbrev n_Dock_leave_until : List Str := ["self", "hour", "leaving", "berth", "until", "order"]
abbrev p_Dock_leave_until : List Str := ["self", "hour"]
theorem sc_Dock_leave_until : FnScope n_Dock_leave_until p_Dock_leave_until (defScope s_Dock_leave_until) := ⟨rfl, rfl, rfl, by decide +kernel, rfl, by decide +kernel, by decide +kernel⟩
abbrev s_Dock_least_unused : Stmt := inClass (topS 46) 3
abbrev n_Dock_least_unused : List Str := ["self", "taken", "found"]
abbrev p_Dock_least_unused : List Str := ["self", "taken"]
theorem sc_Dock_least_unused : FnScope n_Dock_least_unused p_Dock_least_unused (defScope s_Dock_least_unused) := ⟨rfl, rfl, rfl, by decide +kernel, rfl, by decide +kernel, by decide +kernel⟩
abbrev s_Dock_choose : Stmt := inClass (topS 46) 4
abbrev n_Dock_choose : List Str := ["self"]
abbrev p_Dock_choose : List Str := ["self"]
theorem sc_Dock_choose : FnScope n_Dock_choose p_Dock_choose (defScope s_Dock_choose) := ⟨rfl, rfl, rfl, by decide +kernel, rfl, by decide +kernel, by decide +kernel⟩
abbrev s_Dock_enter : Stmt := inClass (topS 46) 5
abbrev n_Dock_enter : List Str := ["self", "ship", "delay", "hours", "ships", "hour", "stay", "arrival", "berth"]
abbrev p_Dock_enter : List Str := ["self", "ship", "delay"]
theorem sc_Dock_enter : FnScope n_Dock_enter p_Dock_enter (defScope s_Dock_enter) := ⟨rfl, rfl, rfl, by decide +kernel, rfl, by decide +kernel, by decide +kernel⟩
abbrev s_Dock_end_day : Stmt := inClass (topS 46) 6
abbrev n_Dock_end_day : List Str := ["self", "hours"]
abbrev p_Dock_end_day : List Str := ["self"]
theorem sc_Dock_end_day : FnScope n_Dock_end_day p_Dock_end_day (defScope s_Dock_end_day) := ⟨rfl, rfl, rfl, by decide +kernel, rfl, by decide +kernel, by decide +kernel⟩
abbrev s_Dock_next_day : Stmt := inClass (topS 46) 7
abbrev n_Dock_next_day : List Str := ["self", "found", "ship"]
abbrev p_Dock_next_day : List Str := ["self"]
theorem sc_Dock_next_day : FnScope n_Dock_next_day p_Dock_next_day (defScope s_Dock_next_day) := ⟨rfl, rfl, rfl, by decide +kernel, rfl, by decide +kernel, by decide +kernel⟩
abbrev s_Dock_switch : Stmt := inClass (topS 46) 8
abbrev n_Dock_switch : List Str := ["self", "table"]
abbrev p_Dock_switch : List Str := ["self", "table"]
theorem sc_Dock_switch : FnScope n_Dock_switch p_Dock_switch (defScope s_Dock_switch) := ⟨rfl, rfl, rfl, by decide +kernel, rfl, by decide +kernel, by decide +kernel⟩
abbrev s_Dock_leaving_order : Stmt := inClass (topS 46) 9
abbrev n_Dock_leaving_order : List Str := ["self", "until", "order", "berth", "pair"]
abbrev p_Dock_leaving_order : List Str := ["self"]
theorem sc_Dock_leaving_order : FnScope n_Dock_leaving_order p_Dock_leaving_order (defScope s_Dock_leaving_order) := ⟨rfl, rfl, rfl, by decide +kernel, rfl, by decide +kernel, by decide +kernel⟩
abbrev s_Dock_free_order : Stmt := inClass (topS 46) 10
abbrev n_Dock_free_order : List Str := ["self"]
abbrev p_Dock_free_order : List Str := ["self"]
theorem sc_Dock_free_order : FnScope n_Dock_free_order p_Dock_free_order (defScope s_Dock_free_order) := ⟨rfl, rfl, rfl, by decide +kernel, rfl, by decide +kernel, by decide +kernel⟩
abbrev s_Dock_state : Stmt := inClass (topS 46) 11
abbrev n_Dock_state : List Str := ["self", "now", "berth"]
abbrev p_Dock_state : List Str := ["self"]
theorem sc_Dock_state : FnScope n_Dock_state p_Dock_state (defScope s_Dock_state) := ⟨rfl, rfl, rfl, by decide +kernel, rfl, by decide +kernel, by decide +kernel⟩
abbrev s_arrival_order : Stmt := topS 47
abbrev n_arrival_order : List Str := ["table", "hour", "ship", "stay"]
abbrev p_arrival_order : List Str := ["table"]
theorem sc_arrival_order : FnScope n_arrival_order p_arrival_order (defScope s_arrival_order) := ⟨rfl, rfl, rfl, by decide +kernel, rfl, by decide +kernel, by decide +kernel⟩
abbrev s_Harbour_init : Stmt := inClass (topS 50) 0
abbrev n_Harbour_init : List Str := ["self", "table", "policy", "start"]
abbrev p_Harbour_init : List Str := ["self", "table", "policy", "start"]
theorem sc_Harbour_init : FnScope n_Harbour_init p_Harbour_init (defScope s_Harbour_init) := ⟨rfl, rfl, rfl, by decide +kernel, rfl, by decide +kernel, by decide +kernel⟩
abbrev s_Harbour_len : Stmt := inClass (topS 50) 1
abbrev n_Harbour_len : List Str := ["self"]
abbrev p_Harbour_len : List Str := ["self"]
theorem sc_Harbour_len : FnScope n_Harbour_len p_Harbour_len (defScope s_Harbour_len) := ⟨rfl, rfl, rfl, by decide +kernel, rfl, by decide +kernel, by decide +kernel⟩
abbrev s_Harbour_eq : Stmt := inClass (topS 50) 2
abbrev n_Harbour_eq : List Str := ["self", "other"]
abbrev p_Harbour_eq : List Str := ["self", "other"]
theorem sc_Harbour_eq : FnScope n_Harbour_eq p_Harbour_eq (defScope s_Harbour_eq) := ⟨rfl, rfl, rfl, by decide +kernel, rfl, by decide +kernel, by decide +kernel⟩
abbrev s_Harbour_snapshot : Stmt := inClass (topS 50) 3
abbrev n_Harbour_snapshot : List Str := ["self", "state"]
abbrev p_Harbour_snapshot : List Str := ["self"]
theorem sc_Harbour_snapshot : FnScope n_Harbour_snapshot p_Harbour_snapshot (defScope s_Harbour_snapshot) := ⟨rfl, rfl, rfl, by decide +kernel, rfl, by decide +kernel, by decide +kernel⟩
abbrev s_Harbour_commit : Stmt := inClass (topS 50) 4
abbrev n_Harbour_commit : List Str := ["self", "operation", "table", "dock", "day"]
abbrev p_Harbour_commit : List Str := ["self", "operation", "table", "dock", "day"]
theorem sc_Harbour_commit : FnScope n_Harbour_commit p_Harbour_commit (defScope s_Harbour_commit) := ⟨rfl, rfl, rfl, by decide +kernel, rfl, by decide +kernel, by decide +kernel⟩
abbrev s_Harbour_advance : Stmt := inClass (topS 50) 5
abbrev n_Harbour_advance : List Str := ["self", "days", "dock", "step"]
abbrev p_Harbour_advance : List Str := ["self", "days"]
theorem sc_Harbour_advance : FnScope n_Harbour_advance p_Harbour_advance (defScope s_Harbour_advance) := ⟨rfl, rfl, rfl, by decide +kernel, rfl, by decide +kernel, by decide +kernel⟩
abbrev s_Harbour_replace : Stmt := inClass (topS 50) 6
abbrev n_Harbour_replace : List Str := ["self", "table", "dock"]
abbrev p_Harbour_replace : List Str := ["self", "table"]
theorem sc_Harbour_replace : FnScope n_Harbour_replace p_Harbour_replace (defScope s_Harbour_replace) := ⟨rfl, rfl, rfl, by decide +kernel, rfl, by decide +kernel, by decide +kernel⟩
abbrev s_Harbour_undo : Stmt := inClass (topS 50) 7
abbrev n_Harbour_undo : List Str := ["self", "operation"]
abbrev p_Harbour_undo : List Str := ["self"]
theorem sc_Harbour_undo : FnScope n_Harbour_undo p_Harbour_undo (defScope s_Harbour_undo) := ⟨rfl, rfl, rfl, by decide +kernel, rfl, by decide +kernel, by decide +kernel⟩
abbrev s_Harbour_day : Stmt := inClass (topS 50) 8
abbrev n_Harbour_day : List Str := ["self"]
abbrev p_Harbour_day : List Str := ["self"]
theorem sc_Harbour_day : FnScope n_Harbour_day p_Harbour_day (defScope s_Harbour_day) := ⟨rfl, rfl, rfl, by decide +kernel, rfl, by decide +kernel, by decide +kernel⟩
abbrev s_Harbour_occupied : Stmt := inClass (topS 50) 9
abbrev n_Harbour_occupied : List Str := ["self", "berth", "until", "order"]
abbrev p_Harbour_occupied : List Str := ["self"]
theorem sc_Harbour_occupied : FnScope n_Harbour_occupied p_Harbour_occupied (defScope s_Harbour_occupied) := ⟨rfl, rfl, rfl, by decide +kernel, rfl, by decide +kernel, by decide +kernel⟩
abbrev s_Harbour_log : Stmt := inClass (topS 50) 10
abbrev n_Harbour_log : List Str := ["self", "operation", "table", "dock", "day"]
abbrev p_Harbour_log : List Str := ["self"]
theorem sc_Harbour_log : FnScope n_Harbour_log p_Harbour_log (defScope s_Harbour_log) := ⟨rfl, rfl, rfl, by decide +kernel, rfl, by decide +kernel, by decide +kernel⟩
abbrev s__law_pail : Stmt := topS 52
abbrev n__law_pail : List Str := ["_law_script", "_law_k", "_law_cell"]
abbrev p__law_pail : List Str := ["_law_script", "_law_k"]
theorem sc__law_pail : FnScope n__law_pail p__law_pail (defScope s__law_pail) := ⟨rfl, rfl, rfl, by decide +kernel, rfl, by decide +kernel, by decide +kernel⟩
abbrev s__law_dip : Stmt := topS 53
abbrev n__law_dip : List Str := ["_law_pail_here", "_law_many", "_law_found", "_law_mixed"]
abbrev p__law_dip : List Str := ["_law_pail_here", "_law_many"]
theorem sc__law_dip : FnScope n__law_dip p__law_dip (defScope s__law_dip) := ⟨rfl, rfl, rfl, by decide +kernel, rfl, by decide +kernel, by decide +kernel⟩
abbrev s__law_hours : Stmt := topS 54
abbrev n__law_hours : List Str := ["_law_pail_here"]
abbrev p__law_hours : List Str := ["_law_pail_here"]
theorem sc__law_hours : FnScope n__law_hours p__law_hours (defScope s__law_hours) := ⟨rfl, rfl, rfl, by decide +kernel, rfl, by decide +kernel, by decide +kernel⟩
abbrev s__law_table : Stmt := topS 55
abbrev n__law_table : List Str := ["_law_pail_here", "_law_day_hours", "_law_most", "_law_ships_here", "_law_k", "_law_wide"]
abbrev p__law_table : List Str := ["_law_pail_here", "_law_day_hours", "_law_most"]
theorem sc__law_table : FnScope n__law_table p__law_table (defScope s__law_table) := ⟨rfl, rfl, rfl, by decide +kernel, rfl, by decide +kernel, by decide +kernel⟩
abbrev s__law_peak : Stmt := topS 56
abbrev n__law_peak : List Str := ["_law_table_here", "_law_day_hours", "_law_ships_here", "_law_found", "_law_k", "_law_hour", "_law_stay", "_law_here", "_law_j", "_law_other", "_law_length"]
abbrev p__law_peak : List Str := ["_law_table_here"]
theorem sc__law_peak : FnScope n__law_peak p__law_peak (defScope s__law_peak) := ⟨rfl, rfl, rfl, by decide +kernel, rfl, by decide +kernel, by decide +kernel⟩
abbrev s__law_policy : Stmt := topS 57
abbrev n__law_policy : List Str := ["_law_pail_here", "_law_table_here"]
abbrev p__law_policy : List Str := ["_law_pail_here", "_law_table_here"]
theorem sc__law_policy : FnScope n__law_policy p__law_policy (defScope s__law_policy) := ⟨rfl, rfl, rfl, by decide +kernel, rfl, by decide +kernel, by decide +kernel⟩
abbrev s__law_start : Stmt := topS 58
abbrev n__law_start : List Str := ["_law_pail_here", "_law_table_here", "_law_policy_here", "_law_found", "_law_most", "_law_berth"]
abbrev p__law_start : List Str := ["_law_pail_here", "_law_table_here", "_law_policy_here"]
theorem sc__law_start : FnScope n__law_start p__law_start (defScope s__law_start) := ⟨rfl, rfl, rfl, by decide +kernel, rfl, by decide +kernel, by decide +kernel⟩
abbrev s__law_dock : Stmt := topS 59
abbrev n__law_dock : List Str := ["_law_policy_here", "_law_strangers", "_law_free", "_law_held", "_law_berth", "_law_until"]
abbrev p__law_dock : List Str := ["_law_policy_here", "_law_strangers"]
theorem sc__law_dock : FnScope n__law_dock p__law_dock (defScope s__law_dock) := ⟨rfl, rfl, rfl, by decide +kernel, rfl, by decide +kernel, by decide +kernel⟩
abbrev s__law_copied : Stmt := topS 60
abbrev n__law_copied : List Str := ["_law_dock_here", "_law_found", "_law_name"]
abbrev p__law_copied : List Str := ["_law_dock_here"]
theorem sc__law_copied : FnScope n__law_copied p__law_copied (defScope s__law_copied) := ⟨rfl, rfl, rfl, by decide +kernel, rfl, by decide +kernel, by decide +kernel⟩
abbrev s__law_leave : Stmt := topS 61
abbrev n__law_leave : List Str := ["_law_dock_here", "_law_hour", "_law_leaving", "_law_berth", "_law_until", "_law_order"]
abbrev p__law_leave : List Str := ["_law_dock_here", "_law_hour"]
theorem sc__law_leave : FnScope n__law_leave p__law_leave (defScope s__law_leave) := ⟨rfl, rfl, rfl, by decide +kernel, rfl, by decide +kernel, by decide +kernel⟩
abbrev s__law_least_not_in : Stmt := topS 62
abbrev n__law_least_not_in : List Str := ["_law_taken", "_law_found"]
abbrev p__law_least_not_in : List Str := ["_law_taken"]
theorem sc__law_least_not_in : FnScope n__law_least_not_in p__law_least_not_in (defScope s__law_least_not_in) := ⟨rfl, rfl, rfl, by decide +kernel, rfl, by decide +kernel, by decide +kernel⟩
abbrev s__law_choice : Stmt := topS 63
abbrev n__law_choice : List Str := ["_law_dock_here"]
abbrev p__law_choice : List Str := ["_law_dock_here"]
theorem sc__law_choice : FnScope n__law_choice p__law_choice (defScope s__law_choice) := ⟨rfl, rfl, rfl, by decide +kernel, rfl, by decide +kernel, by decide +kernel⟩
abbrev s__law_day : Stmt := topS 64
abbrev n__law_day : List Str := ["_law_dock_here", "_law_table_here", "_law_day_hours", "_law_ships_here", "_law_found", "_law_hour", "_law_ship", "_law_k", "_law_now", "_law_berth"]
abbrev p__law_day : List Str := ["_law_dock_here", "_law_table_here"]
theorem sc__law_day : FnScope n__law_day p__law_day (defScope s__law_day) := ⟨rfl, rfl, rfl, by decide +kernel, rfl, by decide +kernel, by decide +kernel⟩
abbrev s__law_days : Stmt := topS 65
abbrev n__law_days : List Str := ["_law_dock_here", "_law_table_here", "_law_many", "_law_k"]
abbrev p__law_days : List Str := ["_law_dock_here", "_law_table_here", "_law_many"]
theorem sc__law_days : FnScope n__law_days p__law_days (defScope s__law_days) := ⟨rfl, rfl, rfl, by decide +kernel, rfl, by decide +kernel, by decide +kernel⟩
abbrev s__law_same : Stmt := topS 66
abbrev n__law_same : List Str := ["_law_found", "_law_due", "_law_k"]
abbrev p__law_same : List Str := ["_law_found", "_law_due"]
theorem sc__law_same : FnScope n__law_same p__law_same (defScope s__law_same) := ⟨rfl, rfl, rfl, by decide +kernel, rfl, by decide +kernel, by decide +kernel⟩
abbrev s__law_right : Stmt := topS 67
abbrev n__law_right : List Str := ["_law_harbour", "_law_dock_here", "_law_operations", "_law_held", "_law_berth", "_law_until", "_law_order", "_law_found"]
abbrev p__law_right : List Str := ["_law_harbour", "_law_dock_here", "_law_operations"]
theorem sc__law_right : FnScope n__law_right p__law_right (defScope s__law_right) := ⟨rfl, rfl, rfl, by decide +kernel, rfl, by decide +kernel, by decide +kernel⟩
abbrev s__law_kind : Stmt := topS 68
abbrev n__law_kind : List Str := ["_law_caught", "_law_some", "_law_found", "_law_word", "_law_so"]
abbrev p__law_kind : List Str := ["_law_caught"]
theorem sc__law_kind : FnScope n__law_kind p__law_kind (defScope s__law_kind) := ⟨rfl, rfl, rfl, by decide +kernel, rfl, by decide +kernel, by decide +kernel⟩
abbrev s__law_advanced : Stmt := topS 69
abbrev n__law_advanced : List Str := ["_law_harbour", "_law_many", "e"]
abbrev p__law_advanced : List Str := ["_law_harbour", "_law_many"]
theorem sc__law_advanced : FnScope n__law_advanced p__law_advanced (defScope s__law_advanced) := ⟨rfl, rfl, rfl, by decide +kernel, rfl, by decide +kernel, by decide +kernel⟩
abbrev s__law_first_without : Stmt := topS 70
abbrev n__law_first_without : List Str := ["_law_dock_here", "_law_table_here", "_law_many", "_law_step", "_law_told"]
abbrev p__law_first_without : List Str := ["_law_dock_here", "_law_table_here", "_law_many"]
theorem sc__law_first_without : FnScope n__law_first_without p__law_first_without (defScope s__law_first_without) := ⟨rfl, rfl, rfl, by decide +kernel, rfl, by decide +kernel, by decide +kernel⟩
abbrev s_law : Stmt := topS 71
abbrev n_law : List Str := ["_law_script", "_law_k", "_law_pail_here", "_law_day_hours", "_law_table_here", "_law_policy_here", "_law_turn", "_law_by", "_law_later_table", "_law_hour", "_law_stay", "_law_harbour", "_law_dock_here", "_law_first", "_law_many", "_law_operations", "_law_later", "_law_due", "_law_step"]
abbrev p_law : List Str := ["_law_script"]
theorem sc_law : FnScope n_law p_law (defScope s_law) := ⟨rfl, rfl, rfl, by decide +kernel, rfl, by decide +kernel, by decide +kernel⟩
end Ba

set_option maxHeartbeats 400000
namespace Ba
open PySem PySem.Spec PyProof.Rows L2
/-! ### the head's facts, with more of one's own -/
abbrev AlX : Type := He.AlD × Bool
def obsX (fa : List He.Fa) (fn : List He.DefD) (ex : PySem.W.Frag → Bool) (K : PySem.W.Frag) : AlX := (He.obsD fa fn K, ex K)
def SaysX (fa : List He.Fa) (fn : List He.DefD) (ex : PySem.W.Frag → Bool) (K : PySem.W.Frag) : Prop := obsX fa fn ex K = (He.valD fn, true)
def obsXG (n : Nat) (fa : List He.Fa) (fn : List He.DefD) (ex : PySem.W.Frag → Bool) (g : Addr → Option Obj) : AlX := obsX fa fn ex (He.frG g (He.asD g n))
def hookX (n : Nat) (fa : List He.Fa) (fn : List He.DefD) (ex : PySem.W.Frag → Bool) : PySem.W.Hook where
  α := AlX
  obs := fun s => obsXG n fa fn ex s.heap.get?
  val := fun _ => (He.valD fn, true)
  says := fun _ h => ∃ K : PySem.W.Frag, K.In h ∧ SaysX fa fn ex K
  of := fun _ _ e => ⟨_, He.frG_in, e⟩
  keeps := fun _ _ _ ⟨K, hK, c⟩ k => ⟨K, PySem.W.Frag.In.keeps hK k, c⟩
theorem obsXG_eq {n : Nat} {fa : List He.Fa} {fn : List He.DefD} {ex : PySem.W.Frag → Bool} {g : Addr → Option Obj} {s : Shared} (h : ∀ a, g a = s.heap.get? a) : obsXG n fa fn ex g = (hookX n fa fn ex).obs s := by
  have e : g = s.heap.get? := funext h
  rw [e] <;> rfl
theorem SaysX.d {fa : List He.Fa} {fn : List He.DefD} {ex : PySem.W.Frag → Bool} {K : PySem.W.Frag} (c : SaysX fa fn ex K) : He.SaysD fa fn K := congrArg (fun z : AlX => z.1) c
theorem SaysX.e {fa : List He.Fa} {fn : List He.DefD} {ex : PySem.W.Frag → Bool} {K : PySem.W.Frag} (c : SaysX fa fn ex K) : ex K = true := congrArg (fun z : AlX => z.2) c
end Ba

namespace Ba
open PySem PySem.Spec PyProof.Rows L2
def kindN : List Str := ["NoTable", "NoHour", "NoPolicy", "NoStart", "NoDays", "NoShip", "NoBerth", "NoMap", "NoPlan", "NoNumber", "NoExchange", "NoChanges", "NoRoom", "TooLong", "Nothing", "NoText", "NoRow"]
def startAd (K : PySem.W.Frag) : Addr := match K.lookup (He.fAd K ("Harbour", some "__init__")) with
  | some ⟨_, _, .func fd, _⟩ => (match fd.kwdefaults with
    | .ref D => (match PySem.W.nsIn K D "start" with
      | some (some (.ref a)) => a
      | _ => 0)
    | _ => 0)
  | _ => 0
def startB (K : PySem.W.Frag) : Bool := match K.lookup (startAd K) with
  | some ⟨.type T, _, .seq its _, _⟩ => T == "tuple" && its.isEmpty
  | _ => false
def oexK (K : PySem.W.Frag) (C : Addr) : Bool := match K.lookup C with
  | some ⟨.type "type", _, .cls cd, sl⟩ => (match cd.mro, sl.toList with
    | .ref C' :: bm, [_, _, _, _, some (.builtin n), _] => C' == C && (n == "ValueError.__new__" && (!cd.hasDel && (cd.hasDict && PySem.HandSPX.refsVE bm)))
    | _, _ => false)
  | _ => false
def roomK (K : PySem.W.Frag) (C f : Addr) : Bool := oexK K C && (He.eqO (PySem.W.findIn K (.ref C) "__setattr__") (some (some (.builtin "object.__setattr__"))) && (decide (PySem.W.subIn K (.ref C) (.type "BaseException") = some true) && (decide (PySem.W.typeIn K (.ref C) = some (.type "type")) && (PySem.W.keepIn K (.ref C) &&
  (He.eqO (PySem.W.findIn K (.ref C) "on_day") (some none) && (He.eqO (PySem.W.findIn K (.ref C) "ship") (some none) && (He.eqO (PySem.W.findIn K (.ref C) "__init__") (some (some (.ref f))) && (decide (PySem.W.typeIn K (.ref f) = some (.type "function")) && (decide (PySem.W.exmOne K (.ref C) (.ref C) = some true) && xfB K C)))))))))
def roomB (K : PySem.W.Frag) : Bool := roomK K (He.ga K "NoRoom") (He.fAd K ("NoRoom", some "__init__"))
def excCB (K : PySem.W.Frag) (D : Addr) : Bool := He.eqO (PySem.W.findIn K (.ref D) "__getattribute__") (some (some (.builtin "BaseException.__getattribute__"))) && (He.eqO (PySem.W.findIn K (.ref D) "__getattr__") (some none) && (decide (PySem.W.subIn K (.ref D) (.type "BaseException") = some true) && (PySem.W.hasDictIn K D &&
  (He.eqO (PySem.W.findIn K (.ref D) "__class__") (some (some (.builtin "object.__class__"))) && (He.eqO (PySem.W.specialIn K (.builtin "object.__class__") "__get__") (some (some (.builtin "getset_descriptor.__get__"))) &&
  (decide (PySem.W.takesIn K (.builtin "object.__class__") = some true) && decide (PySem.W.mroIn K D (.type "object") = some true)))))))
def kindAll (K : PySem.W.Frag) (D : Addr) (i : Nat) : Nat → List Str → Bool
  | _, [] => true
  | j, x :: r => decide (PySem.W.kitOne K (.ref D) (.ref (He.ga K x)) = some (decide (j = i))) && kindAll K D i (j + 1) r
def kindB (x : Str) (i : Nat) (K : PySem.W.Frag) : Bool := excCB K (He.ga K x) && (kindAll K (He.ga K x) i 0 kindN && (decide (PySem.W.kitOne K (.ref (He.ga K x)) (.type "ValueError") = some true) && decide (PySem.W.exmOne K (.ref (He.ga K x)) (.ref (He.ga K "BerthError")) = some true)))
end Ba
set_option maxHeartbeats 0
namespace Ba
open PySem PySem.Spec PyProof.Rows L2

def d_NoRoom_init : He.DefD := ⟨("NoRoom", some "__init__"), "__init__", "NoRoom.__init__", defArgs s_NoRoom_init, defBody s_NoRoom_init, defScope s_NoRoom_init, [], []⟩
def d_is_int : He.DefD := ⟨("is_int", none), "is_int", "is_int", defArgs s_is_int, defBody s_is_int, defScope s_is_int, [], []⟩
def d_in_range : He.DefD := ⟨("in_range", none), "in_range", "in_range", defArgs s_in_range, defBody s_in_range, defScope s_in_range, [], []⟩
def d_is_ship : He.DefD := ⟨("is_ship", none), "is_ship", "is_ship", defArgs s_is_ship, defBody s_is_ship, defScope s_is_ship, [], []⟩
def d_day_events : He.DefD := ⟨("day_events", none), "day_events", "day_events", defArgs s_day_events, defBody s_day_events, defScope s_day_events, [], []⟩
def d_count_at_midnight : He.DefD := ⟨("count_at_midnight", none), "count_at_midnight", "count_at_midnight", defArgs s_count_at_midnight, defBody s_count_at_midnight, defScope s_count_at_midnight, [], []⟩
def d_counts : He.DefD := ⟨("counts", none), "counts", "counts", defArgs s_counts, defBody s_counts, defScope s_counts, [], []⟩
def d_peak_of : He.DefD := ⟨("peak_of", none), "peak_of", "peak_of", defArgs s_peak_of, defBody s_peak_of, defScope s_peak_of, [], []⟩
def d_is_table : He.DefD := ⟨("is_table", none), "is_table", "is_table", defArgs s_is_table, defBody s_is_table, defScope s_is_table, [], []⟩
def d_require_table : He.DefD := ⟨("require_table", none), "require_table", "require_table", defArgs s_require_table, defBody s_require_table, defScope s_require_table, [], []⟩
def d_valid_policy : He.DefD := ⟨("valid_policy", none), "valid_policy", "valid_policy", defArgs s_valid_policy, defBody s_valid_policy, defScope s_valid_policy, [], []⟩
def d_require_policy : He.DefD := ⟨("require_policy", none), "require_policy", "require_policy", defArgs s_require_policy, defBody s_require_policy, defScope s_require_policy, [], []⟩
def d_is_stranger : He.DefD := ⟨("is_stranger", none), "is_stranger", "is_stranger", defArgs s_is_stranger, defBody s_is_stranger, defScope s_is_stranger, [], []⟩
def d_valid_start : He.DefD := ⟨("valid_start", none), "valid_start", "valid_start", defArgs s_valid_start, defBody s_valid_start, defScope s_valid_start, [], []⟩
def d_require_start : He.DefD := ⟨("require_start", none), "require_start", "require_start", defArgs s_require_start, defBody s_require_start, defScope s_require_start, [], []⟩
def d_require_days : He.DefD := ⟨("require_days", none), "require_days", "require_days", defArgs s_require_days, defBody s_require_days, defScope s_require_days, [], []⟩
def d_Dock_init : He.DefD := ⟨("Dock", some "__init__"), "__init__", "Dock.__init__", defArgs s_Dock_init, defBody s_Dock_init, defScope s_Dock_init, [], []⟩
def d_Dock_copy : He.DefD := ⟨("Dock", some "copy"), "copy", "Dock.copy", defArgs s_Dock_copy, defBody s_Dock_copy, defScope s_Dock_copy, [], []⟩
def d_Dock_leave_until : He.DefD := ⟨("Dock", some "leave_until"), "leave_until", "Dock.leave_until", defArgs s_Dock_leave_until, defBody s_Dock_leave_until, defScope s_Dock_leave_until, [], []⟩
def d_Dock_least_unused : He.DefD := ⟨("Dock", some "least_unused"), "least_unused", "Dock.least_unused", defArgs s_Dock_least_unused, defBody s_Dock_least_unused, defScope s_Dock_least_unused, [], []⟩
def d_Dock_choose : He.DefD := ⟨("Dock", some "choose"), "choose", "Dock.choose", defArgs s_Dock_choose, defBody s_Dock_choose, defScope s_Dock_choose, [], []⟩
def d_Dock_enter : He.DefD := ⟨("Dock", some "enter"), "enter", "Dock.enter", defArgs s_Dock_enter, defBody s_Dock_enter, defScope s_Dock_enter, [.int 0], []⟩
def d_Dock_end_day : He.DefD := ⟨("Dock", some "end_day"), "end_day", "Dock.end_day", defArgs s_Dock_end_day, defBody s_Dock_end_day, defScope s_Dock_end_day, [], []⟩
def d_Dock_next_day : He.DefD := ⟨("Dock", some "next_day"), "next_day", "Dock.next_day", defArgs s_Dock_next_day, defBody s_Dock_next_day, defScope s_Dock_next_day, [], []⟩
def d_Dock_switch : He.DefD := ⟨("Dock", some "switch"), "switch", "Dock.switch", defArgs s_Dock_switch, defBody s_Dock_switch, defScope s_Dock_switch, [], []⟩
def d_Dock_leaving_order : He.DefD := ⟨("Dock", some "leaving_order"), "leaving_order", "Dock.leaving_order", defArgs s_Dock_leaving_order, defBody s_Dock_leaving_order, defScope s_Dock_leaving_order, [], []⟩
def d_Dock_free_order : He.DefD := ⟨("Dock", some "free_order"), "free_order", "Dock.free_order", defArgs s_Dock_free_order, defBody s_Dock_free_order, defScope s_Dock_free_order, [], []⟩
def d_Dock_state : He.DefD := ⟨("Dock", some "state"), "state", "Dock.state", defArgs s_Dock_state, defBody s_Dock_state, defScope s_Dock_state, [], []⟩
def d_arrival_order : He.DefD := ⟨("arrival_order", none), "arrival_order", "arrival_order", defArgs s_arrival_order, defBody s_arrival_order, defScope s_arrival_order, [], []⟩
def d_Harbour_init : He.DefD := ⟨("Harbour", some "__init__"), "__init__", "Harbour.__init__", defArgs s_Harbour_init, defBody s_Harbour_init, defScope s_Harbour_init, [], [("start", .adr startAd)]⟩
def d_Harbour_len : He.DefD := ⟨("Harbour", some "__len__"), "__len__", "Harbour.__len__", defArgs s_Harbour_len, defBody s_Harbour_len, defScope s_Harbour_len, [], []⟩
def d_Harbour_eq : He.DefD := ⟨("Harbour", some "__eq__"), "__eq__", "Harbour.__eq__", defArgs s_Harbour_eq, defBody s_Harbour_eq, defScope s_Harbour_eq, [], []⟩
def d_Harbour_snapshot : He.DefD := ⟨("Harbour", some "snapshot"), "snapshot", "Harbour.snapshot", defArgs s_Harbour_snapshot, defBody s_Harbour_snapshot, defScope s_Harbour_snapshot, [], []⟩
def d_Harbour_commit : He.DefD := ⟨("Harbour", some "commit"), "commit", "Harbour.commit", defArgs s_Harbour_commit, defBody s_Harbour_commit, defScope s_Harbour_commit, [], []⟩
def d_Harbour_advance : He.DefD := ⟨("Harbour", some "advance"), "advance", "Harbour.advance", defArgs s_Harbour_advance, defBody s_Harbour_advance, defScope s_Harbour_advance, [], []⟩
def d_Harbour_replace : He.DefD := ⟨("Harbour", some "replace"), "replace", "Harbour.replace", defArgs s_Harbour_replace, defBody s_Harbour_replace, defScope s_Harbour_replace, [], []⟩
def d_Harbour_undo : He.DefD := ⟨("Harbour", some "undo"), "undo", "Harbour.undo", defArgs s_Harbour_undo, defBody s_Harbour_undo, defScope s_Harbour_undo, [], []⟩
def d_Harbour_day : He.DefD := ⟨("Harbour", some "day"), "day", "Harbour.day", defArgs s_Harbour_day, defBody s_Harbour_day, defScope s_Harbour_day, [], []⟩
def d_Harbour_occupied : He.DefD := ⟨("Harbour", some "occupied"), "occupied", "Harbour.occupied", defArgs s_Harbour_occupied, defBody s_Harbour_occupied, defScope s_Harbour_occupied, [], []⟩
def d_Harbour_log : He.DefD := ⟨("Harbour", some "log"), "log", "Harbour.log", defArgs s_Harbour_log, defBody s_Harbour_log, defScope s_Harbour_log, [], []⟩
def d__law_pail : He.DefD := ⟨("_law_pail", none), "_law_pail", "_law_pail", defArgs s__law_pail, defBody s__law_pail, defScope s__law_pail, [], []⟩
def d__law_dip : He.DefD := ⟨("_law_dip", none), "_law_dip", "_law_dip", defArgs s__law_dip, defBody s__law_dip, defScope s__law_dip, [], []⟩
def d__law_hours : He.DefD := ⟨("_law_hours", none), "_law_hours", "_law_hours", defArgs s__law_hours, defBody s__law_hours, defScope s__law_hours, [], []⟩
def d__law_table : He.DefD := ⟨("_law_table", none), "_law_table", "_law_table", defArgs s__law_table, defBody s__law_table, defScope s__law_table, [], []⟩
def d__law_peak : He.DefD := ⟨("_law_peak", none), "_law_peak", "_law_peak", defArgs s__law_peak, defBody s__law_peak, defScope s__law_peak, [], []⟩
def d__law_policy : He.DefD := ⟨("_law_policy", none), "_law_policy", "_law_policy", defArgs s__law_policy, defBody s__law_policy, defScope s__law_policy, [], []⟩
def d__law_start : He.DefD := ⟨("_law_start", none), "_law_start", "_law_start", defArgs s__law_start, defBody s__law_start, defScope s__law_start, [], []⟩
def d__law_dock : He.DefD := ⟨("_law_dock", none), "_law_dock", "_law_dock", defArgs s__law_dock, defBody s__law_dock, defScope s__law_dock, [], []⟩
def d__law_copied : He.DefD := ⟨("_law_copied", none), "_law_copied", "_law_copied", defArgs s__law_copied, defBody s__law_copied, defScope s__law_copied, [], []⟩
def d__law_leave : He.DefD := ⟨("_law_leave", none), "_law_leave", "_law_leave", defArgs s__law_leave, defBody s__law_leave, defScope s__law_leave, [], []⟩
def d__law_least_not_in : He.DefD := ⟨("_law_least_not_in", none), "_law_least_not_in", "_law_least_not_in", defArgs s__law_least_not_in, defBody s__law_least_not_in, defScope s__law_least_not_in, [], []⟩
def d__law_choice : He.DefD := ⟨("_law_choice", none), "_law_choice", "_law_choice", defArgs s__law_choice, defBody s__law_choice, defScope s__law_choice, [], []⟩
def d__law_day : He.DefD := ⟨("_law_day", none), "_law_day", "_law_day", defArgs s__law_day, defBody s__law_day, defScope s__law_day, [], []⟩
def d__law_days : He.DefD := ⟨("_law_days", none), "_law_days", "_law_days", defArgs s__law_days, defBody s__law_days, defScope s__law_days, [], []⟩
def d__law_same : He.DefD := ⟨("_law_same", none), "_law_same", "_law_same", defArgs s__law_same, defBody s__law_same, defScope s__law_same, [], []⟩
def d__law_right : He.DefD := ⟨("_law_right", none), "_law_right", "_law_right", defArgs s__law_right, defBody s__law_right, defScope s__law_right, [], []⟩
def d__law_kind : He.DefD := ⟨("_law_kind", none), "_law_kind", "_law_kind", defArgs s__law_kind, defBody s__law_kind, defScope s__law_kind, [], []⟩
def d__law_advanced : He.DefD := ⟨("_law_advanced", none), "_law_advanced", "_law_advanced", defArgs s__law_advanced, defBody s__law_advanced, defScope s__law_advanced, [], []⟩
def d__law_first_without : He.DefD := ⟨("_law_first_without", none), "_law_first_without", "_law_first_without", defArgs s__law_first_without, defBody s__law_first_without, defScope s__law_first_without, [], []⟩
def d_law : He.DefD := ⟨("law", none), "law", "law", defArgs s_law, defBody s_law, defScope s_law, [], []⟩
def fn0 : List He.DefD := [d_NoRoom_init, d_is_int, d_in_range, d_is_ship, d_day_events, d_count_at_midnight, d_counts, d_peak_of, d_is_table, d_require_table, d_valid_policy, d_require_policy, d_is_stranger, d_valid_start, d_require_start, d_require_days, d_Dock_init, d_Dock_copy, d_Dock_leave_until, d_Dock_least_unused, d_Dock_choose, d_Dock_enter, d_Dock_end_day, d_Dock_next_day, d_Dock_switch, d_Dock_leaving_order, d_Dock_free_order, d_Dock_state, d_arrival_order, d_Harbour_init]
def fn1 : List He.DefD := [d_Harbour_len, d_Harbour_eq, d_Harbour_snapshot, d_Harbour_commit, d_Harbour_advance, d_Harbour_replace, d_Harbour_undo, d_Harbour_day, d_Harbour_occupied, d_Harbour_log, d__law_pail, d__law_dip, d__law_hours, d__law_table, d__law_peak, d__law_policy, d__law_start, d__law_dock, d__law_copied, d__law_leave, d__law_least_not_in, d__law_choice, d__law_day, d__law_days, d__law_same, d__law_right, d__law_kind, d__law_advanced, d__law_first_without, d_law]
def fn : List He.DefD := fn0 ++ fn1
def fa0 : List He.Fa := [.glo "is_int", .glo "in_range", .glo "is_ship", .glo "day_events", .glo "count_at_midnight", .glo "counts", .glo "peak_of", .glo "is_table", .glo "require_table", .glo "valid_policy", .glo "require_policy", .glo "is_stranger", .glo "valid_start", .glo "require_start", .glo "require_days", .glo "arrival_order", .glo "_law_pail", .glo "_law_dip", .glo "_law_hours", .glo "_law_table", .glo "_law_peak", .glo "_law_policy", .glo "_law_start", .glo "_law_dock", .glo "_law_copied", .glo "_law_leave", .glo "_law_least_not_in", .glo "_law_choice", .glo "_law_day", .glo "_law_days"]
def fa1 : List He.Fa := [.glo "_law_same", .glo "_law_right", .glo "_law_kind", .glo "_law_advanced", .glo "_law_first_without", .glo "law", .glo "Dock", .glo "Harbour", .glo "BerthError", .glo "NoTable", .glo "NoHour", .glo "NoPolicy", .glo "NoStart", .glo "NoDays", .glo "NoShip", .glo "NoBerth", .glo "NoMap", .glo "NoPlan", .glo "NoNumber", .glo "NoExchange", .glo "NoChanges", .glo "Nothing", .glo "NoText", .glo "NoRow", .glo "NoRoom", .glo "TooLong", .free "isinstance", .free "len", .free "max", .free "min"]
def fa2 : List He.Fa := [.free "sorted", .free "all", .free "divmod", .free "sum", .free "int", .free "bool", .free "tuple", .free "str", .free "list", .free "dict", .free "range", .free "enumerate", .free "zip", .free "repr", .free "ValueError", .int "MOST_HOURS" 1000, .int "MOST_SHIPS" 24, .int "MOST_STAY" 10000, .int "MOST_PEAK" 60, .int "DEPARTURE" 0, .int "ARRIVAL" 1, .int "MOST_BERTH" 200, .int "MAX_ADVANCE" 200, .str "LEAST" "least", .str "LAST" "last", .str "LONG" "long", .cls "Dock", .noat "Dock" "table", .noat "Dock" "policy", .noat "Dock" "today"]
def fa3 : List He.Fa := [.noat "Dock" "stays", .noat "Dock" "vacated", .noat "Dock" "used", .mkr "Dock", .meth "Dock" "copy", .meth "Dock" "leave_until", .meth "Dock" "least_unused", .meth "Dock" "choose", .meth "Dock" "enter", .meth "Dock" "end_day", .meth "Dock" "next_day", .meth "Dock" "switch", .meth "Dock" "leaving_order", .meth "Dock" "free_order", .meth "Dock" "state", .cls "Harbour", .noat "Harbour" "timetable", .noat "Harbour" "policy", .noat "Harbour" "dock", .noat "Harbour" "today", .noat "Harbour" "history", .mkr "Harbour", .meth "Harbour" "__len__", .meth "Harbour" "__eq__", .meth "Harbour" "snapshot", .meth "Harbour" "commit", .meth "Harbour" "advance", .meth "Harbour" "replace", .meth "Harbour" "undo", .meth "Harbour" "day"]
def fa4 : List He.Fa := [.meth "Harbour" "occupied", .meth "Harbour" "log", .exc "BerthError", .exc "NoTable", .exc "NoHour", .exc "NoPolicy", .exc "NoStart", .exc "NoDays", .exc "NoShip", .exc "NoBerth", .exc "NoMap", .exc "NoPlan", .exc "NoNumber", .exc "NoExchange", .exc "NoChanges", .exc "Nothing", .exc "NoText", .exc "NoRow"]
def fa : List He.Fa := fa0 ++ fa1 ++ fa2 ++ fa3 ++ fa4
def lo0 : List PySem.Str := ["BerthError", "NoTable", "NoHour", "NoPolicy", "NoStart", "NoDays", "NoShip", "NoBerth", "NoMap", "NoPlan", "NoNumber", "NoExchange", "NoChanges", "NoRoom", "TooLong", "Nothing", "NoText", "NoRow", "MOST_HOURS", "MOST_SHIPS", "MOST_STAY", "MOST_PEAK", "DEPARTURE", "ARRIVAL", "is_int", "in_range", "is_ship", "day_events", "count_at_midnight", "counts"]
def lo1 : List PySem.Str := ["peak_of", "is_table", "require_table", "MOST_BERTH", "LEAST", "LAST", "LONG", "valid_policy", "require_policy", "is_stranger", "valid_start", "require_start", "require_days", "Dock", "arrival_order", "MAX_ADVANCE", "Harbour", "_law_pail", "_law_dip", "_law_hours", "_law_table", "_law_peak", "_law_policy", "_law_start", "_law_dock", "_law_copied", "_law_leave", "_law_least_not_in", "_law_choice", "_law_day"]
def lo2 : List PySem.Str := ["_law_days", "_law_same", "_law_right", "_law_kind", "_law_advanced", "_law_first_without"]
abbrev R : PySem.W.OpenRow := PySem.W.OpenLaw.row PySem.Challenge.rw_berths_k52_no_room
def loose : List PySem.Str := lo0 ++ lo1 ++ lo2
def exB (K : PySem.W.Frag) : Bool := startB K && (roomB K && (kindB "NoRoom" 12 K && (decide (PySem.W.kitOne K (.ref (He.ga K "NoRoom")) (.ref (He.ga K "BerthError")) = some true) && (true))))
abbrev hk : PySem.W.Hook := hookX 6 fa fn exB
def ob (s : PySem.W.SharedT) : AlX := obsXG 6 fa fn exB (HandSHeadRun.getT s)
theorem ob_eq (s : PySem.W.SharedT) : ob s = hk.obs s.abs := obsXG_eq (HandSHeadRun.getT_eq s)
theorem run (w : World) : HandSHeadRun.RunEq R (PySem.W.view R.prog [71]) hk ob 8000 loose w := by
  intro os
  kernel_rfl
end Ba

set_option maxHeartbeats 4000000
/-! Short words of our own: a def with its promise (DefOk), a method, a class; frames. -/
namespace Ba
open PySem PySem.Spec PyProof.Rows L2
/-- a promise, as a thing that is not unfolded -/
structure Pr (φ : Sp) (vs : List V) (H : Hp) (Q : VK) (E : XK) : Prop where
  ok : φ vs H Q E
/-- the def that the module's name x stands for keeps sp, at level k; dvs: its defaults behind the written arguments -/
structure DefOk (P : Program) (w : World) (K : PySem.W.Frag) (mg : Str → Option Value) (base : Heap) (x : Str) (k : Nat) (ps : List Str) (dvs : List V) (sp : Sp) : Prop where
  ex : ∃ (f : Addr) (fd : FuncData) (ds : List Value), FnOk P w K mg base (L2N.CX P w) k f fd ps sp ∧ mg x = some (.ref f) ∧ PySem.W.keepIn K (.ref f) = true ∧ Binds K fd ps ds ∧ Vals dvs ds
structure MetOk (P : Program) (w : World) (K : PySem.W.Frag) (mg : Str → Option Value) (base : Heap) (C : Addr) (m : Str) (k : Nat) (ps : List Str) (dvs : List V) (sp : Sp) : Prop where
  ex : ∃ (f : Addr) (fd : FuncData) (ds : List Value), FnOk P w K mg base (L2N.CX P w) k f fd ps sp ∧ Meth K C m f ∧ Binds K fd ps ds ∧ Vals dvs ds
theorem DefOk.imp {P : Program} {w : World} {K : PySem.W.Frag} {mg : Str → Option Value} {base : Heap} {x : Str} {k : Nat} {ps : List Str} {dvs : List V} {sp sp' : Sp} (D : DefOk P w K mg base x k ps dvs sp) (h : ∀ vs H Q E, sp' vs H Q E → sp vs H Q E) : DefOk P w K mg base x k ps dvs sp' := by
  obtain ⟨f, fd, ds, F, r⟩ := D
  exact ⟨f, fd, ds, F.imp h, r⟩
/-- the class that the module's name x stands for; __init__ keeps sp -/
structure MkOk (P : Program) (w : World) (K : PySem.W.Frag) (mg : Str → Option Value) (base : Heap) (x : Str) (C : Addr) (k : Nat) (ps : List Str) (dvs : List V) (sp : Sp) : Prop where
  ex : ∃ (f : Addr) (fd : FuncData) (ds : List Value), FnOk P w K mg base (L2N.CX P w) k f fd ps sp ∧ Mk K C f ∧ mg x = some (.ref C) ∧ Binds K fd ps ds ∧ Vals dvs ds
section
variable {X : Cx} {k : Nat} {ps : List Str} {dvs : List V} {sp : Sp} {E : XK} {x m : Str} {p pos apos : Pos} {e o : Expr} {es : List Expr} {t : TA} {ta : TE} {C : Addr}
theorem pe_fn (D : DefOk X.prog X.w X.K X.mg X.base x k ps dvs sp) (hr : Room k X.A) (hx : Passes (L2N.CX X.prog X.w) X E) (hg : Gl X x) (ha : PA X (e :: es) t) (hdb : (x == ("__debug__" : Str)) = false := by decide)
    (he : starEach (e :: es) X.env = (false, eval e X.env) :: starEach es X.env := by rfl) (hpl : (backTo pos (starEach es X.env)).any (·.1) = false := by rfl) :
    PE X (.Call (.Name x p) (e :: es) [] pos) (tCall sp dvs E t) := by
  obtain ⟨f, fd, ds, F, hm, hk, hb, hd⟩ := D
  exact pe_call F hr hg hm hk hb hd hx ha hdb he hpl
theorem pe_met {pl : Sem Bool} (he : PE X o ta) (c : Cls X.K C) (D : MetOk X.prog X.w X.K X.mg X.base C m k ps dvs sp) (hr : Room k X.A) (hx : Passes (L2N.CX X.prog X.w) X E) (ha : PA X (e :: es) t)
    (hst : starEach (e :: es) X.env = (false, eval e X.env) :: starEach es X.env := by rfl) (hpl : (backTo pos (starEach es X.env)).any (·.1) = false := by rfl)
    (ht : eval (.Call (.Attribute o m apos) (e :: es) [] pos) X.env = (do
      let ov ← eval o X.env
      standAt apos.atName
      let (f, first) ← holding [ov] (getMethod ov m pl)
      callWith pos f first (backTo pos (starEach (e :: es) X.env)) (backToKw pos (keywordEach [] X.env))) := by rfl) :
    PE X (.Call (.Attribute o m apos) (e :: es) [] pos) (tMeth C m sp dvs E ta t) := by
  obtain ⟨f, fd, ds, F, hm, hb, hd⟩ := D
  exact pe_meth he c hm F hr hb hd hx ha hst hpl ht
theorem pe_met0 {pl : Sem Bool} (he : PE X o ta) (c : Cls X.K C) (D : MetOk X.prog X.w X.K X.mg X.base C m k ps dvs sp) (hr : Room k X.A) (hx : Passes (L2N.CX X.prog X.w) X E)
    (ht : eval (.Call (.Attribute o m apos) [] [] pos) X.env = (do
      let ov ← eval o X.env
      standAt apos.atName
      let (f, first) ← holding [ov] (getMethod ov m pl)
      callWith pos f first (backTo pos (starEach [] X.env)) (backToKw pos (keywordEach [] X.env))) := by rfl) :
    PE X (.Call (.Attribute o m apos) [] [] pos) (tMeth C m sp dvs E ta tNil) := by
  obtain ⟨f, fd, ds, F, hm, hb, hd⟩ := D
  exact pe_meth0 he c hm F hr hb hd hx ht
theorem pe_mk (D : MkOk X.prog X.w X.K X.mg X.base x C k ps dvs sp) (hr : Room (k + 1) X.A) (hx : Passes (L2N.CX X.prog X.w) X E) (hg : Gl X x) (ha : PA X (e :: es) t) (hdb : (x == ("__debug__" : Str)) = false := by decide)
    (he : starEach (e :: es) X.env = (false, eval e X.env) :: starEach es X.env := by rfl) (hpl : (backTo pos (starEach es X.env)).any (·.1) = false := by rfl) :
    PE X (.Call (.Name x p) (e :: es) [] pos) (tMake C sp dvs E t) := by
  obtain ⟨f, fd, ds, F, M, hm, hb, hd⟩ := D
  exact pe_make M F hr hg hm hb hd hx ha hdb he hpl
theorem pe_mk0 (D : MkOk X.prog X.w X.K X.mg X.base x C k ps dvs sp) (hr : Room (k + 1) X.A) (hx : Passes (L2N.CX X.prog X.w) X E) (hg : Gl X x) (hdb : (x == ("__debug__" : Str)) = false := by decide) :
    PE X (.Call (.Name x p) [] [] pos) (tMake C sp dvs E tNil) := by
  obtain ⟨f, fd, ds, F, M, hm, hb, hd⟩ := D
  exact pe_make0 M F hr hg hm hb hd hx hdb
end
theorem passLB {X : Cx} : Passes (L2N.CX X.prog X.w) X E0 := fun _ _ _ _ _ _ _ h => by
  obtain ⟨_, _, _, _, _, _, _, _, _, _, _, _, z⟩ := h
  exact z.elim
theorem takes0B {X : Cx} : L2N.Takes X (fun _ _ _ _ => False) := fun _ _ x => by
  obtain ⟨_, _, _, _, _, _, _, _, _, _, _, _, _, _, _, _, z⟩ := x
  exact z.elim
/-! ### the def of the text -/
abbrev FunS (K : PySem.W.Frag) (x qual : Str) (st : Stmt) (dvs : List V) (kws : List (Str × V)) (f : Addr) (fd : FuncData) : Prop := FunD K x qual (defArgs st) (defBody st) (defScope st) dvs kws f fd
section
variable {P : Program} {w : World} {K : PySem.W.Frag} {mg : Str → Option Value} {base : Heap} {x qual : Str} {st : Stmt} {f : Addr} {fd : FuncData} {ps N : List Str} {k : Nat} {sp : Sp}
/-- a def without defaults: from its body's reading -/
theorem defOk (F : FunS K x qual st [] [] f fd) (hm : mg x = some (.ref f)) (S : FnScope N ps (defScope st)) (hb : ∀ (kV doc pm : Value) (an : Option Addr) (cdv ct : Value) (us : List Value), us.length = ps.length → bindArgs (PySem.W.fnOf x qual (defArgs st) (defBody st) (defScope st) .none kV doc pm an cdv ct) ⟨us, []⟩ = pure (ps.zip us))
    (len : ∀ vs H Q E, sp vs H Q E → vs.length = ps.length)
    (hbody : ∀ (cdv : Value) (A : Around) (outer : List Env) (s : Shared) (H : Hp) (vs : List V) (Q : VK) (E : XK), Room k (A.deeper (envOfC qual (defScope st) s.heap.objs.size f cdv)) → sp vs H Q E →
      ∃ t, PSs (cxOf (L2N.CX P w) P w K mg base N qual (defScope st) f cdv A outer s H E) (defBody st) t ∧ t { nx := fun _ H' => Q .non H', rt := Q } (start N vs) H) :
    DefOk P w K mg base x (k + 1) ps [] sp :=
  ⟨f, fd, [], F.ok S len hbody, hm, F.kp, F.bindsN hb, .nil⟩
theorem takesB {cdv : Value} {A : Around} {outer : List Env} {s : Shared} {H : Hp} {E : XK} {scope : Scope} : L2N.Takes (cxOf (L2N.CX P w) P w K mg base N qual scope f cdv A outer s H E) (fun cls d _ H => E cls d H) := L2N.takes_of rfl rfl rfl rfl
theorem passB {cdv : Value} {A : Around} {outer : List Env} {s : Shared} {H : Hp} {E : XK} {scope : Scope} : Passes (L2N.CX P w) (cxOf (L2N.CX P w) P w K mg base N qual scope f cdv A outer s H E) E := L2N.passes_call takesB fun _ _ _ _ h => h
end
/-! ### frames -/
/-- no tuple, nor a known one -/
def NT (u : HO) : Prop := (∀ xs, u ≠ .tup xs) ∧ ∀ o xs, u ≠ .frz o (.tup xs)
/-- all but the objects at S is as it was; tuples stay -/
structure Kp (S : List Addr) (H H' : Hp) : Prop where
  keep : ∀ b o, H b = some o → b ∉ S → H' b = some o
  tup : TK H H'
  frz : ∀ b o xs, H b = some (.frz o (.tup xs)) → H' b = some (.frz o (.tup xs))
theorem Kp.refl {S : List Addr} (H : Hp) : Kp S H H := ⟨fun _ _ h _ => h, TK.refl H, fun _ _ _ h => h⟩
theorem Kp.trans {S : List Addr} {H H1 H2 : Hp} (a : Kp S H H1) (b : Kp S H1 H2) : Kp S H H2 := ⟨fun p o h n => b.keep p o (a.keep p o h n) n, a.tup.trans b.tup, fun p o xs h => b.frz p o xs (a.frz p o xs h)⟩
theorem Kp.new {S : List Addr} {H : Hp} {p : Addr} {o : HO} (h : H p = none) : Kp S H (upd H p o) := ⟨fun b u e _ => by rw [upd_ne (ne_of_none e h)]; exact e, TK.new h, fun b u xs e => by rw [upd_ne (ne_of_none e h)]; exact e⟩
theorem Kp.wr {S : List Addr} {H : Hp} {p : Addr} {o u : HO} (hs : p ∈ S) (h : H p = some u) (hn : NT u) : Kp S H (upd H p o) :=
  ⟨fun b v e n => by rw [upd_ne (show b ≠ p from fun z => n (by rw [z]; exact hs))]; exact e, fun b xs e => by rw [upd_ne (ne_of e h (fun z => hn.1 xs z.symm))]; exact e, fun b o xs e => by rw [upd_ne (ne_of e h (fun z => hn.2 o xs z.symm))]; exact e⟩
theorem Kp.mono {S S' : List Addr} {H H' : Hp} (a : Kp S H H') (h : ∀ b ∈ S, b ∈ S') : Kp S' H H' := ⟨fun p o e n => a.keep p o e (fun z => n (h p z)), a.tup, a.frz⟩
/-- what was made since does not count -/
theorem Kp.less {S S' : List Addr} {H H' : Hp} (a : Kp S H H') (h : ∀ b ∈ S, b ∈ S' ∨ H b = none) : Kp S' H H' :=
  ⟨fun p o e n => a.keep p o e (fun z => by rcases h p z with q | q; exact n q; rw [e] at q; cases q), a.tup, a.frz⟩
theorem Kp.same {H H' : Hp} (a : Kp [] H H') : Same H H' := fun b o e => a.keep b o e (by simp)
theorem Kp.of_same {S : List Addr} {H H' : Hp} (a : Same H H') : Kp S H H' := ⟨fun b o e _ => a b o e, fun b xs e => a b _ e, fun b _ _ e => a b _ e⟩
theorem Kp.free {H H' : Hp} (a : Kp [] H H') {p : Addr} (h : H' p = none) : H p = none := by
  cases e : H p with
  | none => rfl
  | some o => rw [a.keep p o e (by simp)] at h; cases h
theorem sqT_kp {K : PySem.W.Frag} {S : List Addr} {H H' : Hp} {a : Addr} {xs : List V} (k : Kp S H H') (h1 : SqT K H a xs) : SqT K H' a xs := by
  rcases h1 with (h1 | ⟨o, h1⟩) | h1
  · exact .inl (.inl (k.tup _ _ h1))
  · exact .inl (.inr ⟨o, k.frz _ _ _ h1⟩)
  · exact .inr h1
theorem Kp.at {S : List Addr} {H H' : Hp} (a : Kp S H H') {p : Addr} {o : HO} (h : H p = some o) (n : p ∉ S) : H' p = some o := a.keep p o h n
theorem sqL_kp {K : PySem.W.Frag} {S : List Addr} {H H' : Hp} {a : Addr} {xs : List V} (k : Kp S H H') (n : a ∉ S) (h : SqL K H a xs) : SqL K H' a xs := by
  rcases h with (h | ⟨o, h⟩) | h
  · exact .inl (.inl (k.keep _ _ h n))
  · exact .inl (.inr ⟨o, k.keep _ _ h n⟩)
  · exact .inr h
theorem sqT_tk {K : PySem.W.Frag} {H H' : Hp} {a : Addr} {xs : List V} (k : TK H H') (h : H a = some (.tup xs)) : SqT K H' a xs := SqT.of (k _ _ h)
theorem Tp.kp {S : List Addr} {H H' : Hp} {v : V} {d : PyData} (h : Tp H v d) (k : Kp S H H') : Tp H' v d := Tp.mono k.tup d v h
theorem TpAll.kp {S : List Addr} {H H' : Hp} {v : List V} {d : List PyData} (h : TpAll H v d) (k : Kp S H H') : TpAll H' v d := TpAll.mono k.tup d v h
theorem Tp.new {H : Hp} {v : V} {d : PyData} (h : Tp H v d) {p : Addr} {o : HO} (n : H p = none) : Tp (upd H p o) v d := Tp.mono (TK.new n) d v h
theorem TpAll.new {H : Hp} {v : List V} {d : List PyData} (h : TpAll H v d) {p : Addr} {o : HO} (n : H p = none) : TpAll (upd H p o) v d := TpAll.mono (TK.new n) d v h
end Ba

set_option maxHeartbeats 4000000
/-! More short words: walks, comprehensions that give data, constants of the module, exception classes. -/
namespace Ba
open PySem PySem.Spec PyProof.Rows L2
/-! ### slots of a comprehension's own names -/
theorem wipe_get {σ : L2.St} {i : Nat} : ∀ {vs : List Nat}, (wipe σ vs)[i]? = if i ∈ vs then (if i < σ.length then some none else none) else σ[i]?
  | [] => by simp [wipe]
  | v :: vs => by
    have ih := wipe_get (σ := σ) (i := i) (vs := vs)
    have hl := wipe_length σ vs
    show ((wipe σ vs).set v none)[i]? = _
    rw [List.getElem?_set, ih, hl]
    by_cases e : v = i
    · subst e
      simp
    · have e' : ¬ i = v := fun z => e z.symm
      simp [e, e']
theorem wipe_set {σ : L2.St} {i : Nat} {x : Option V} {vs : List Nat} (h : i ∈ vs) : wipe (σ.set i x) vs = wipe σ vs := by
  apply List.ext_getElem?
  intro j
  rw [wipe_get, wipe_get, List.length_set]
  by_cases e : j ∈ vs
  · simp [e]
  · have hij : i ≠ j := fun z => e (z ▸ h)
    simp [e, List.getElem?_set, hij]
theorem wipe_wipe {σ : L2.St} {vs : List Nat} : wipe (wipe σ vs) vs = wipe σ vs := by
  apply List.ext_getElem?
  intro j
  rw [wipe_get, wipe_length, wipe_get]
  by_cases e : j ∈ vs
  · simp [e]
  · simp [e]
theorem wipe1 {σ : L2.St} {vs : List Nat} {i : Nat} {x : Option V} (h : i ∈ vs) : wipe ((wipe σ vs).set i x) vs = wipe σ vs := by rw [wipe_set h, wipe_wipe]
theorem wipe2 {σ : L2.St} {vs : List Nat} {i j : Nat} {x y : Option V} (h : i ∈ vs ∧ j ∈ vs) : wipe (((wipe σ vs).set i x).set j y) vs = wipe σ vs := by rw [wipe_set h.2, wipe_set h.1, wipe_wipe]
theorem wipe3 {σ : L2.St} {vs : List Nat} {i j k : Nat} {x y z : Option V} (h : i ∈ vs ∧ j ∈ vs ∧ k ∈ vs) : wipe ((((wipe σ vs).set i x).set j y).set k z) vs = wipe σ vs := by rw [wipe_set h.2.2, wipe_set h.2.1, wipe_set h.1, wipe_wipe]
theorem wipe4 {σ : L2.St} {vs : List Nat} {i j k l : Nat} {x y z u : Option V} (h : i ∈ vs ∧ j ∈ vs ∧ k ∈ vs ∧ l ∈ vs) : wipe (((((wipe σ vs).set i x).set j y).set k z).set l u) vs = wipe σ vs := by rw [wipe_set h.2.2.2, wipe_set h.2.2.1, wipe_set h.2.1, wipe_set h.1, wipe_wipe]
theorem wipe5 {σ : L2.St} {vs : List Nat} {i j k l m : Nat} {x y z u t : Option V} (h : i ∈ vs ∧ j ∈ vs ∧ k ∈ vs ∧ l ∈ vs ∧ m ∈ vs) : wipe ((((((wipe σ vs).set i x).set j y).set k z).set l u).set m t) vs = wipe σ vs := by rw [wipe_set h.2.2.2.2, wipe_set h.2.2.2.1, wipe_set h.2.2.1, wipe_set h.2.1, wipe_set h.1, wipe_wipe]
/-! ### walks -/
theorem walk_enumT {K : PySem.W.Frag} {a : Addr} {xs : List V} : Walk (Itet K a) xs.length (fun H => SqT K H a xs) (YPair (fun i => some (.int (i : Nat))) (fun i => xs[i]?)) := by
  refine ⟨fun i _ hi q => ⟨xs, xs[i], q, by simp [hi]⟩, fun _ q => ⟨xs, q, Nat.le_refl _⟩, fun i H v H' _ q y => ?_⟩
  obtain ⟨T, x, h1, h2, h3, h4⟩ := y
  exact ⟨T, .int (i : Nat), x, h1, h2, h3, rfl, h4 xs q⟩
/-- within a comprehension whose turns only make objects: behind i turns; turn i gives the data f i (one, or none) -/
structure LcSt (n : Nat) (f : Nat → List PyData) (H1 : Hp) (D : Addr) (i : Nat) (H : Hp) : Prop where
  le : i ≤ n
  kp : Kp [] H1 H
  ac : ∃ acc, H D = some (.lst acc) ∧ acc.length ≤ i ∧ TpAll H acc ((List.range i).flatMap f)
theorem range_flat {β : Type} (f : Nat → List β) (i : Nat) : (List.range (i + 1)).flatMap f = (List.range i).flatMap f ++ f i := by
  rw [List.range_succ, List.flatMap_append]
  simp
theorem LcSt.fin {n : Nat} {f : Nat → List PyData} {H1 H H4 : Hp} {D : Addr} {i : Nat} {y : V} {d : PyData} (L : LcSt n f H1 D i H) (hn : n < 2000000) (hD : H1 D = none) (hi : i < n) (k : Kp [] H H4) (e : f i = [d]) (ty : Tp H4 y d) :
    ∃ acc, H4 D = some (.lst acc) ∧ acc.length < sizeLine ∧ LcSt n f H1 D (i + 1) (upd H4 D (.lst (acc ++ [y]))) := by
  obtain ⟨hin, kp, acc, hacc, hlen, hT⟩ := L
  have hsz : (2000000 : Nat) < sizeLine := by decide
  have hDs : H4 D = some (.lst acc) := k.keep _ _ hacc (by simp)
  have kw : Kp [D] H4 (upd H4 D (.lst (acc ++ [y]))) := Kp.wr (by simp) hDs ⟨fun _ z => (nomatch z), fun _ _ z => (nomatch z)⟩
  refine ⟨acc, hDs, by omega, hi, ?_, acc ++ [y], upd_same, by rw [List.length_append]; show acc.length + 1 ≤ i + 1; omega, ?_⟩
  · exact (((kp.trans k).mono (S' := [D]) (by simp)).trans kw).less (fun b hb => by
      have e : b = D := by simpa using hb
      rw [e]; exact .inr hD)
  · rw [range_flat, e]
    exact TpAll.append ((hT.kp k).kp kw) (.cons (ty.kp kw) .nil)
theorem LcSt.skip {n : Nat} {f : Nat → List PyData} {H1 H H4 : Hp} {D : Addr} {i : Nat} (L : LcSt n f H1 D i H) (hi : i < n) (k : Kp [] H H4) (e : f i = []) : LcSt n f H1 D (i + 1) H4 := by
  obtain ⟨hin, kp, acc, hacc, hlen, hT⟩ := L
  exact ⟨hi, kp.trans k, acc, k.keep _ _ hacc (by simp), by omega, by rw [range_flat, e, List.append_nil]; exact hT.kp k⟩
theorem lc_data {J : It} {n : Nat} {G : Hp → Prop} {Y : Nat → Hp → V → Hp → Prop} (w : Walk J n G Y) {g : TG} {tt : TT} {te : TE} {vs : List Nat} {σ : L2.St} {H1 : Hp} {D : Addr} {Qd : Hp → Prop} (f : Nat → List PyData)
    (hD : H1 D = none) (hG : ∀ H, Kp [] H1 H → G H)
    (hs : ∀ i x H H', i < n → LcSt n f H1 D i H → Y i H x H' → g x (wipe σ vs) H' fun σ2 H2 => wipe σ2 vs = wipe σ vs ∧ tt σ2 H2 fun b H3 =>
      if b = true then te σ2 H3 fun y H4 => ∃ acc, H4 D = some (.lst acc) ∧ acc.length < sizeLine ∧ LcSt n f H1 D (i + 1) (upd H4 D (.lst (acc ++ [y]))) else LcSt n f H1 D (i + 1) H3)
    (hd : ∀ H acc, Kp [] H1 H → H D = some (.lst acc) → acc.length ≤ n → TpAll H acc ((List.range n).flatMap f) → Qd H) :
    ∃ W : Nat → Nat → Hp → Prop, (∃ m, W 0 m (upd H1 D (.lst []))) ∧ ∀ i m H, W i m H →
      (J.stop i H ∧ Qd H) ∨ (J.go i H ∧ ∃ Nx : Hp → Prop, (∀ H', Nx H' → ∃ m', m' < m ∧ W (i + 1) m' H') ∧ ∀ x H', J.yld i H x H' → g x (wipe σ vs) H' fun σ2 H2 => wipe σ2 vs = wipe σ vs ∧ tt σ2 H2 fun b H3 =>
        if b = true then te σ2 H3 fun y H4 => ∃ acc, H4 D = some (.lst acc) ∧ acc.length < sizeLine ∧ Nx (upd H4 D (.lst (acc ++ [y]))) else Nx H3) :=
  lc_it w (fun i H => LcSt n f H1 D i H) ⟨Nat.zero_le _, Kp.new hD, [], upd_same, Nat.le_refl _, .nil⟩ (fun i H _ p => hG H p.kp) hs fun H L => by
    obtain ⟨_, k, acc, h1, h2, h3⟩ := L
    exact hd H acc k h1 h2 h3
theorem tpAll_bls {H : Hp} : ∀ {acc : List V} {bs : List Bool}, TpAll H acc (bs.map .bool) → acc = bs.map V.bl
  | _, [], h => by cases h; rfl
  | _, b :: bs, h => by
    cases h with
    | cons h1 h2 => cases h1; rw [tpAll_bls h2]; rfl
theorem tpAll_ints {H : Hp} : ∀ {acc : List V} {ns : List Int}, TpAll H acc (ns.map .int) → acc = ns.map V.int
  | _, [], h => by cases h; rfl
  | _, b :: bs, h => by
    cases h with
    | cons h1 h2 => cases h1; rw [tpAll_ints h2]; rfl
theorem tpAll_of_ints {H : Hp} : ∀ {ns : List Int}, TpAll H (ns.map V.int) (ns.map .int)
  | [] => .nil
  | n :: ns => .cons (.int n) tpAll_of_ints
/-- the i-th turn of a walk over data that gives one datum each -/
theorem flatMap_one {α β : Type} (l : List α) (f : Nat → List β) (g : α → β) (h : ∀ i x, l[i]? = some x → f i = [g x]) : (List.range l.length).flatMap f = l.map g := by
  induction l generalizing f with
  | nil => rfl
  | cons a l ih =>
    rw [List.length_cons, List.range_succ_eq_map, List.flatMap_cons, List.flatMap_map, List.map_cons, h 0 a rfl]
    show g a :: (List.range l.length).flatMap (fun i => f (i + 1)) = _
    rw [ih (fun i => f (i + 1)) (fun i x e => h (i + 1) x (by simpa using e))]
theorem flatMap_some {α β : Type} (l : List α) (f : Nat → List β) (g : α → List β) (h : ∀ i x, l[i]? = some x → f i = g x) : (List.range l.length).flatMap f = l.flatMap g := by
  induction l generalizing f with
  | nil => rfl
  | cons a l ih =>
    rw [List.length_cons, List.range_succ_eq_map, List.flatMap_cons, List.flatMap_map, List.flatMap_cons, h 0 a rfl]
    show g a ++ (List.range l.length).flatMap (fun i => f (i + 1)) = _
    rw [ih (fun i => f (i + 1)) (fun i x e => h (i + 1) x (by simpa using e))]
theorem iteT' {b : Bool} {A B : Prop} (hb : b = true) (h : A) : if b = true then A else B := by rw [hb]; exact h
theorem iteF' {b : Bool} {A B : Prop} (hb : b = false) (h : B) : if b = true then A else B := by rw [hb]; exact h
/-! ### constants of the module -/
section
variable {X : Cx} {x : Str} {pos : Pos}
theorem pe_gint {i : Int} (hg : Gl X x) (hm : ∃ t, X.mg x = some (.int i t)) (hd : (x == ("__debug__" : Str)) = false := by decide) : PE X (.Name x pos) (tC (.int i)) := by
  obtain ⟨t, h⟩ := hm
  exact pe_glob hg h ⟨t, rfl⟩ hd
theorem pe_gstr {z : Str} (hg : Gl X x) (hm : ∃ t, X.mg x = some (.str z t)) (hd : (x == ("__debug__" : Str)) = false := by decide) : PE X (.Name x pos) (tC (.str z)) := by
  obtain ⟨t, h⟩ := hm
  exact pe_glob hg h ⟨t, rfl⟩ hd
end
/-- no own exception __init__: a class of the text over ValueError -/
structure ExcOk (K : PySem.W.Frag) (mg : Str → Option Value) (nm : Str) (C : Addr) : Prop where
  x : PySem.W.excIn K C [.type "ValueError", .type "Exception", .type "BaseException", .type "object"] "ValueError.__new__" = true
  g : mg nm = some (.ref C)
  k : PySem.W.keepIn K (.ref C) = true
  e : PySem.W.subIn K (.ref C) (.type "BaseException") = some true
  t : PySem.W.typeIn K (.ref C) = some (.type "type")
/-- the built-in names that the module does not bind -/
structure Bi (mg : Str → Option Value) : Prop where
  isinstance : mg "isinstance" = none
  len : mg "len" = none
  max : mg "max" = none
  min : mg "min" = none
  sorted : mg "sorted" = none
  all : mg "all" = none
  divmod : mg "divmod" = none
  sum : mg "sum" = none
  int : mg "int" = none
  bool : mg "bool" = none
  tuple : mg "tuple" = none
  str : mg "str" = none
  list : mg "list" = none
  dict : mg "dict" = none
  range : mg "range" = none
  enumerate : mg "enumerate" = none
  zip : mg "zip" = none
  repr : mg "repr" = none
structure TTab (mg : Str → Option Value) : Prop where
  MOST_HOURS : ∃ t, mg "MOST_HOURS" = some (.int 1000 t)
  MOST_SHIPS : ∃ t, mg "MOST_SHIPS" = some (.int 24 t)
  MOST_STAY : ∃ t, mg "MOST_STAY" = some (.int 10000 t)
  MOST_PEAK : ∃ t, mg "MOST_PEAK" = some (.int 60 t)
  DEPARTURE : ∃ t, mg "DEPARTURE" = some (.int 0 t)
  ARRIVAL : ∃ t, mg "ARRIVAL" = some (.int 1 t)
end Ba

set_option maxHeartbeats 400000
/-! Dicts of data: pairs (int key, datum); copies; locked dicts. -/
namespace Ba
open PySem PySem.Spec PyProof.Rows L2
section
variable {α : Type}
/-- the dict's pairs read as ss, by key and datum -/
inductive DvAt (H : Hp) (key : α → Int) (enc : α → PyData) : List (Key × V) → List α → Prop
  | nil : DvAt H key enc [] []
  | cons {v : V} {s : α} {kvs : List (Key × V)} {ss : List α} : Tp H v (enc s) → DvAt H key enc kvs ss → DvAt H key enc ((.inl (key s), v) :: kvs) (s :: ss)
variable {H H' : Hp} {key : α → Int} {enc : α → PyData}
theorem DvAt.tk (k : TK H H') : ∀ {kvs : List (Key × V)} {ss : List α}, DvAt H key enc kvs ss → DvAt H' key enc kvs ss
  | _, _, .nil => .nil
  | _, _, .cons h t => .cons (Tp.mono k _ _ h) (t.tk k)
theorem DvAt.len : ∀ {kvs : List (Key × V)} {ss : List α}, DvAt H key enc kvs ss → kvs.length = ss.length
  | _, _, .nil => rfl
  | _, _, .cons h t => by rw [List.length_cons, List.length_cons, t.len]
theorem DvAt.app : ∀ {kvs ls : List (Key × V)} {ss ts : List α}, DvAt H key enc kvs ss → DvAt H key enc ls ts → DvAt H key enc (kvs ++ ls) (ss ++ ts)
  | _, _, _, _, .nil, s => s
  | _, _, _, _, .cons h t, s => .cons h (t.app s)
theorem DvAt.at : ∀ {kvs : List (Key × V)} {ss : List α} {i : Nat} {k : Key} {v : V}, DvAt H key enc kvs ss → kvs[i]? = some (k, v) → ∃ s, ss[i]? = some s ∧ k = .inl (key s) ∧ Tp H v (enc s)
  | _, _, _, _, _, .nil, e => by simp at e
  | _, _, 0, _, _, .cons h _, e => by simp at e; obtain ⟨rfl, rfl⟩ := e; exact ⟨_, rfl, rfl, h⟩
  | _, _, i + 1, _, _, .cons _ t, e => by
    obtain ⟨s, h1, h2⟩ := t.at (i := i) (by simpa using e)
    exact ⟨s, by simpa using h1, h2⟩
theorem DvAt.keys : ∀ {kvs : List (Key × V)} {ss : List α}, DvAt H key enc kvs ss → kvs.map (·.1) = ss.map fun s => Sum.inl (key s)
  | _, _, .nil => rfl
  | _, _, .cons h t => by rw [List.map_cons, List.map_cons, t.keys]
theorem DvAt.drop : ∀ {kvs : List (Key × V)} {ss : List α} (b : Int), DvAt H key enc kvs ss → DvAt H key enc (dropK kvs (.inl b)) (ss.filter fun s => decide (key s ≠ b))
  | _, _, _, .nil => .nil
  | _, _, b, .cons (v := v) (s := s) (kvs := kvs) (ss := ss) h t => by
    by_cases e : key s = b
    · rw [show dropK ((Sum.inl (key s), v) :: kvs) (Sum.inl b) = dropK kvs (Sum.inl b) by simp [dropK, e], show (s :: ss).filter (fun s => decide (key s ≠ b)) = ss.filter (fun s => decide (key s ≠ b)) by simp [e]]
      exact t.drop b
    · rw [show dropK ((Sum.inl (key s), v) :: kvs) (Sum.inl b) = (Sum.inl (key s), v) :: dropK kvs (Sum.inl b) by simp [dropK, e], show (s :: ss).filter (fun s => decide (key s ≠ b)) = s :: ss.filter (fun s => decide (key s ≠ b)) by simp [e]]
      exact .cons h (t.drop b)
theorem DvAt.val : ∀ {kvs : List (Key × V)} {ss : List α} (b : Int), DvAt H key enc kvs ss → (valV kvs (.inl b)).isSome = (ss.any fun s => decide (key s = b))
  | _, _, _, .nil => rfl
  | _, _, b, .cons (v := v) (s := s) (kvs := kvs) (ss := ss) h t => by
    by_cases e : key s = b
    · rw [valV_pos (by rw [e])]; simp [e]
    · rw [valV_neg (fun z => e (by injection z)), t.val b]; simp [e]
theorem DvAt.valAt : ∀ {kvs : List (Key × V)} {ss : List α} {s : α}, DvAt H key enc kvs ss → s ∈ ss → (ss.map key).Nodup → ∃ v, valV kvs (.inl (key s)) = some v ∧ Tp H v (enc s)
  | _, _, _, .nil, m, _ => by simp at m
  | _, _, s, .cons (v := v) (s := s0) (kvs := kvs) (ss := ss) h t, m, nd => by
    rw [List.map_cons, List.nodup_cons] at nd
    by_cases e : key s0 = key s
    · rcases List.mem_cons.mp m with rfl | m
      · exact ⟨v, valV_pos rfl, h⟩
      · exact absurd (List.mem_map.mpr ⟨s, m, e.symm⟩) nd.1
    · rcases List.mem_cons.mp m with rfl | m
      · exact absurd rfl e
      · obtain ⟨u, h1, h2⟩ := t.valAt m nd.2
        exact ⟨u, by rw [valV_neg (fun z => e (by injection z))]; exact h1, h2⟩
theorem DvAt.put {kvs : List (Key × V)} {ss : List α} {s : α} {v : V} (h : DvAt H key enc kvs ss) (n : (ss.any fun x => decide (key x = key s)) = false) (t : Tp H v (enc s)) : DvAt H key enc (putK kvs (.inl (key s)) v) (ss ++ [s]) := by
  rw [putK_new v (by have := h.val (key s); rw [n] at this; cases e : valV kvs (Sum.inl (key s)) with | none => rfl | some u => rw [e] at this; cases this)]
  exact h.app (.cons t .nil)
end
/-- keys only: the values are any -/
structure KeysAt (kvs : List (Key × V)) (ns : List Int) : Prop where
  eq : kvs.map (·.1) = ns.map Sum.inl
theorem KeysAt.val {kvs : List (Key × V)} {ns : List Int} (b : Int) (h : KeysAt kvs ns) : (valV kvs (.inl b)).isSome = (ns.any fun s => decide (s = b)) := by
  rw [← valV_any]
  have h1 : (kvs.any fun kv => decide (kv.1 = Sum.inl b)) = (kvs.map (·.1)).any (fun k => decide (k = Sum.inl b)) := by rw [List.any_map]; rfl
  rw [h1, h.eq, List.any_map]
  congr 1
  funext s
  show decide ((Sum.inl s : Key) = Sum.inl b) = decide (s = b)
  by_cases e : s = b
  · rw [e]; simp
  · rw [decide_eq_false e, decide_eq_false (fun z => e (by injection z))]
def putN (ns : List Int) (b : Int) : List Int := if (ns.any fun s => decide (s = b)) = true then ns else ns ++ [b]
theorem KeysAt.put {kvs : List (Key × V)} {ns : List Int} (b : Int) (v : V) (h : KeysAt kvs ns) : KeysAt (putK kvs (.inl b) v) (putN ns b) := by
  refine ⟨?_⟩
  have e := h.val b
  rw [← valV_any] at e
  unfold putK putN
  rw [e]
  split
  · rw [List.map_map, ← h.eq]
    refine List.map_congr_left fun kv _ => ?_
    show (if kv.1 = Sum.inl b then (kv.1, v) else kv).1 = kv.1
    split <;> rfl
  · rw [List.map_append, h.eq, List.map_append]
    rfl
theorem KeysAt.len {kvs : List (Key × V)} {ns : List Int} (h : KeysAt kvs ns) : kvs.length = ns.length := by
  have := congrArg List.length h.eq
  rwa [List.length_map, List.length_map] at this
/-! ### dict(d) -/
section
variable {X : Cx}
theorem call_dictC : CallR X (.type "dict") (fun xs H Q => ∃ (a : Addr) (kvs : List (Key × V)), xs = [.ref a] ∧ H a = some (.dK kvs) ∧ ∀ p, H p = none → Q (.ref p) (upd H p (.dK kvs))) := by
  intro pins s σ H xs us Q I r q
  obtain ⟨a, kvs, rfl, e, q⟩ := q
  obtain rfl := Vals.ref1 r
  exact d_copyOf I (.inl e) fun p s' hp I' => ⟨.ref p, _, I', rfl, q p hp⟩
end
/-! ### locked -/
theorem tk_frz {H : Hp} {d : Addr} {o : Obj} {u : HO} (h : H d = some u) (hn : NT u) : TK H (upd H d (.frz o u)) := fun a xs e => by
  rw [upd_ne (ne_of e h (fun z => hn.1 xs z.symm))]; exact e
theorem kp_unlock {H H4 : Hp} {d : Addr} {o : Obj} {u : HO} (h : H d = some u) (hn : NT u) (k : Kp [] (upd H d (.frz o u)) H4) : Kp [] H (upd H4 d u) := by
  refine ⟨fun b v e _ => ?_, fun b xs e => ?_, fun b o xs e => ?_⟩
  · by_cases z : b = d
    · subst z
      rw [upd_same, ← h, e]
    · rw [upd_ne z]
      exact k.keep b v (by rw [upd_ne z]; exact e) (by simp)
  · have z := ne_of e h (fun z => hn.1 xs z.symm)
    rw [upd_ne z]
    exact k.tup b xs (by rw [upd_ne z]; exact e)
  · have z := ne_of e h (fun z => hn.2 o xs z.symm)
    rw [upd_ne z]
    exact k.frz b o xs (by rw [upd_ne z]; exact e)
/-- the pairs of a locked dict, each a new tuple -/
theorem walk_items {d : Addr} {o : Obj} {kvs : List (Key × V)} : Walk (Iti d o kvs) kvs.length (fun H => H d = some (.frz o (.dK kvs))) (fun i H v H' => ∃ T k x, kvs[i]? = some (k, x) ∧ v = .ref T ∧ H T = none ∧ H' = upd H T (.tup [kV k, x])) :=
  ⟨fun i H hi g => ⟨g, hi⟩, fun H g => ⟨g, Nat.le_refl _⟩, fun i H x H' _ _ y => y⟩
/-! ### an own exception with its own __init__ -/
structure OMk (P : Program) (w : World) (K : PySem.W.Frag) (mg : Str → Option Value) (base : Heap) (x : Str) (C : Addr) (k : Nat) (ps : List Str) (sp : Sp) : Prop where
  T : OexC K C
  ex : ∃ (f : Addr) (fd : FuncData), PySem.W.findIn K (.ref C) "__init__" = some (some (.ref f)) ∧ PySem.W.typeIn K (.ref f) = some (.type "function") ∧ FnOk P w K mg base (L2N.CX P w) k f fd ps sp ∧ Binds K fd ps [] ∧ mg x = some (.ref C)
section
variable {X : Cx} {k : Nat} {ps : List Str} {sp : Sp} {x : Str} {C : Addr} {p pos : Pos} {e : Expr} {es : List Expr} {ta : TA}
end
end Ba
namespace Ba
open PySem PySem.Spec PyProof.Rows L2
/-- within a dict comprehension whose turns only make objects -/
structure DcSt (R : Nat → Hp → List (Key × V) → Prop) (H1 : Hp) (D : Addr) (i : Nat) (H : Hp) : Prop where
  kp : Kp [] H1 H
  ac : ∃ kvs, H D = some (.dK kvs) ∧ kvs.length ≤ i ∧ R i H kvs
theorem DcSt.fin {R : Nat → Hp → List (Key × V) → Prop} {H1 H H5 : Hp} {D : Addr} {i : Nat} {k : Key} {y z : V} (L : DcSt R H1 D i H) (hD : H1 D = none) (hi : i < 2000000) (kk : Kp [] H H5) (hy : y = kV k)
    (hR : ∀ kvs H6, R i H kvs → TK H5 H6 → R (i + 1) H6 (putK kvs k z)) :
    ∃ kvs k, y = kV k ∧ H5 D = some (.dK kvs) ∧ kvs.length < sizeLine ∧ DcSt R H1 D (i + 1) (upd H5 D (.dK (putK kvs k z))) := by
  obtain ⟨kp, kvs, hk, hl, r⟩ := L
  have hsz : (2000000 : Nat) < sizeLine := by decide
  have hDs : H5 D = some (.dK kvs) := kk.keep _ _ hk (by simp)
  have kw : Kp [D] H5 (upd H5 D (.dK (putK kvs k z))) := Kp.wr (by simp) hDs ⟨fun _ z => (nomatch z), fun _ _ z => (nomatch z)⟩
  refine ⟨kvs, k, hy, hDs, by omega, ?_, _, upd_same, Nat.le_trans (length_putK kvs k z) (by omega), hR _ _ r kw.tup⟩
  exact (((kp.trans kk).mono (S' := [D]) (by simp)).trans kw).less (fun b hb => by
    have e : b = D := by simpa using hb
    rw [e]; exact .inr hD)
theorem dc_data {K : PySem.W.Frag} {a : Addr} {xs : List V} {g : TG} {tt : TT} {tk tv : TE} {vs : List Nat} {σ : L2.St} {H1 : Hp} {D : Addr} {Qd : Hp → Prop} (R : Nat → Hp → List (Key × V) → Prop) (hD : H1 D = none) (ha : SqT K H1 a xs)
    (h0 : R 0 (upd H1 D (.dK [])) []) (hG : ∀ H, Kp [] H1 H → SqT K H a xs)
    (hs : ∀ i x H, xs[i]? = some x → DcSt R H1 D i H → g x (wipe σ vs) H fun σ2 H2 => wipe σ2 vs = wipe σ vs ∧ tt σ2 H2 fun b H3 =>
      if b = true then tk σ2 H3 fun y H4 => tv σ2 H4 fun z H5 => ∃ kvs k, y = kV k ∧ H5 D = some (.dK kvs) ∧ kvs.length < sizeLine ∧ DcSt R H1 D (i + 1) (upd H5 D (.dK (putK kvs k z))) else DcSt R H1 D (i + 1) H3)
    (hd : ∀ H kvs, Kp [] H1 H → H D = some (.dK kvs) → R xs.length H kvs → Qd H) :
    ∃ W : Nat → Nat → Hp → Prop, (∃ m, W 0 m (upd H1 D (.dK []))) ∧ ∀ i m H, W i m H →
      ((Itt K a).stop i H ∧ Qd H) ∨ ((Itt K a).go i H ∧ ∃ Nx : Hp → Prop, (∀ H', Nx H' → ∃ m', m' < m ∧ W (i + 1) m' H') ∧ ∀ x H', (Itt K a).yld i H x H' → g x (wipe σ vs) H' fun σ2 H2 => wipe σ2 vs = wipe σ vs ∧ tt σ2 H2 fun b H3 =>
        if b = true then tk σ2 H3 fun y H4 => tv σ2 H4 fun z H5 => ∃ kvs k, y = kV k ∧ H5 D = some (.dK kvs) ∧ kvs.length < sizeLine ∧ Nx (upd H5 D (.dK (putK kvs k z))) else Nx H3) :=
  dc_tup (fun i H => DcSt R H1 D i H) ⟨Kp.new hD, [], upd_same, Nat.le_refl _, h0⟩ (fun i H _ L => hG H L.kp) hs (fun H L => by
    obtain ⟨kp, kvs, h1, h2, h3⟩ := L
    exact hd H kvs kp h1 h3)
end Ba
namespace Ba
open PySem PySem.Spec PyProof.Rows L2
theorem Kp.put {S : List Addr} {H H1 : Hp} {p : Addr} {o u : HO} (k : Kp S H H1) (hs : p ∈ S) (h : H1 p = some u) (hn : NT u) : Kp S H (upd H1 p o) := k.trans (Kp.wr hs h hn)
theorem ins_nt {C dx : Addr} {fs : List (Str × V)} : NT (.ins C dx fs) := ⟨fun _ z => (nomatch z), fun _ _ z => (nomatch z)⟩
theorem lst_nt {l : List V} : NT (.lst l) := ⟨fun _ z => (nomatch z), fun _ _ z => (nomatch z)⟩
theorem dK_nt {l : List (Key × V)} : NT (.dK l) := ⟨fun _ z => (nomatch z), fun _ _ z => (nomatch z)⟩
theorem Kp.freeS {S : List Addr} {H H' : Hp} (a : Kp S H H') {p : Addr} (h : H' p = none) (n : p ∉ S) : H p = none := by
  cases e : H p with
  | none => rfl
  | some o => rw [a.keep p o e n] at h; cases h
end Ba
namespace Ba
open PySem PySem.Spec PyProof.Rows L2
theorem nd_take {α : Type} (f : α → Int) {l : List α} (nd : (l.map f).Nodup) {i : Nat} {b : α} (h : l[i]? = some b) : ∀ x ∈ l.take i, f x ≠ f b := by
  intro x hx e
  obtain ⟨hi, hb⟩ := List.getElem?_eq_some_iff.mp h
  have hs : l = l.take i ++ b :: l.drop (i + 1) := by
    rw [← hb, ← List.drop_eq_getElem_cons hi, List.take_append_drop]
  rw [hs, List.map_append, List.map_cons, List.nodup_append] at nd
  exact nd.2.2 (f x) (List.mem_map.mpr ⟨x, hx, rfl⟩) (f b) (by simp) e
end Ba
namespace Ba
theorem nd_inj {α β : Type} (f : α → β) {l : List α} (nd : (l.map f).Nodup) {x y : α} (hx : x ∈ l) (hy : y ∈ l) (e : f x = f y) : x = y := by
  induction l with
  | nil => simp at hx
  | cons a l ih =>
    rw [List.map_cons, List.nodup_cons] at nd
    rcases List.mem_cons.mp hx with e1 | h1
    · rcases List.mem_cons.mp hy with e2 | h2
      · rw [e1, e2]
      · exact absurd (List.mem_map.mpr ⟨y, h2, by rw [← e, e1]⟩) nd.1
    · rcases List.mem_cons.mp hy with e2 | h2
      · exact absurd (List.mem_map.mpr ⟨x, h1, by rw [e, e2]⟩) nd.1
      · exact ih nd.2 h1 h2
end Ba
namespace Ba
open PySem PySem.Spec PyProof.Rows L2
theorem pe_fldB {X : Cx} {e : Expr} {ta : TE} {f : Str} {pos : Pos} {K : PySem.W.Frag} (hK : X.K = K) (he : PE X e ta) (hb : attributeBase e f X.env (eval e X.env) = eval e X.env) : PE X (.Attribute e f pos) (tFld K ta f) := by
  subst hK
  exact pe_fld he hb
end Ba

set_option maxHeartbeats 400000
/-! An attribute as a target among others; a class with a keyword-only parameter. -/
namespace Ba
open PySem PySem.Spec PyProof.Rows L2
section
variable {X : Cx}
def gFld (K : PySem.W.Frag) (to : TE) (f : Str) : TG := fun v σ H Q => to σ H fun x H1 => ∃ a C dx fs, x = .ref a ∧ H1 a = some (.ins C dx fs) ∧ Cls K C ∧ NoAttr K C f ∧ fs.length < 1000 ∧ Q σ (upd H1 a (.ins C dx (putF f v fs)))
theorem pg_fld {o : Expr} {to : TE} {f : Str} {pos : Pos} (ho : PE X o to) : PG X (.Attribute o f pos) (gFld X.K to f) := by
  refine ⟨fun pins s σ H v u Q I r h => ?_⟩
  rw [assign_Attribute]
  refine wpAny_bind (wpAny_holding (thn (ho.run pins s σ H _ I h) fun ov s1 ⟨x, H1, I1, r1, a, C, dx, fs, ex, ea, c, n, l, q1⟩ => ?_))
  subst ex
  obtain rfl : ov = Value.ref a := r1
  refine wpAny_bind (wpAny_standAt (wpAny_bind (wpAny_holding (setattr_ok I1 ea c n l r fun s3 I3 => ?_))))
  exact wpAny_release ⟨σ, _, I3, q1⟩
end
/-- the class x stands for, __init__ taking n positional values and the keywords ks -/
structure MkKOk (P : Program) (w : World) (K : PySem.W.Frag) (mg : Str → Option Value) (base : Heap) (x : Str) (C : Addr) (k : Nat) (ps : List Str) (n : Nat) (ks : List Str) (gV : List V → List V → List V) (sp : Sp) : Prop where
  ex : ∃ (f : Addr) (fd : FuncData) (g : List Value → List Value → List Value), FnOk P w K mg base (L2N.CX P w) k f fd ps sp ∧ Mk K C f ∧ mg x = some (.ref C) ∧ KBn K fd ps (n + 1) ks g gV
section
variable {X : Cx} {k n : Nat} {ps ks : List Str} {gV : List V → List V → List V} {sp : Sp} {E : XK} {x : Str} {p pos : Pos} {e : Expr} {es : List Expr} {kws : List Keyword} {t tk : TA} {C : Addr}
theorem pe_mkK (D : MkKOk X.prog X.w X.K X.mg X.base x C k ps n ks gV sp) (hr : Room (k + 1) X.A) (hx : Passes (L2N.CX X.prog X.w) X E) (hg : Gl X x) (ha : PA X (e :: es) t) (hkw : PK X kws tk)
    (hall : (backToKw pos (keywordEach kws X.env)).all (·.1.isSome) = true := by rfl) (hks : (backToKw pos (keywordEach kws X.env)).filterMap (·.1) = ks := by rfl) (hdb : (x == ("__debug__" : Str)) = false := by decide)
    (he : starEach (e :: es) X.env = (false, eval e X.env) :: starEach es X.env := by rfl) (hpl : ((backTo pos (starEach (e :: es) X.env)).any (·.1) || (backToKw pos (keywordEach kws X.env)).any (·.1.isNone)) = false := by rfl) :
    PE X (.Call (.Name x p) (e :: es) kws pos) (tMakeK C n ks.length sp gV E t tk) := by
  obtain ⟨f, fd, g, F, M, hm, hb⟩ := D
  exact pe_makeK M F hr hg hm hb hx ha hkw hall hks hdb he hpl
end
end Ba
namespace Ba
open PySem PySem.Spec PyProof.Rows L2
/-! ### tuples whose object is known; dict(tuple) -/
section
variable {X : Cx}
def tTupF (t : TA) : TE := fun σ H Q => t σ H fun xs H1 => xs.length ≤ sizeLine ∧ ∀ p o, H1 p = none → o.dict = none → o.cls = .type "tuple" → Q (.ref p) (upd H1 p (.frz o (.tup xs)))
theorem pe_tupF {es : List Expr} {t : TA} {pos : Pos} {x1} (h : PA X es t) : PE X (.Tuple es x1 pos) (tTupF t) := by
  refine ⟨fun pins s σ H Q I hq => ?_⟩
  refine wpAny_Tuple_spliced (thn (h.run pos pins s σ H _ I hq) fun us s1 ⟨xs, H1, I1, r, z, q⟩ => ⟨by rw [← r.length]; exact z, ?_⟩)
  have hf : H1 s1.heap.objs.size = none := I1.hok.fresh (Nat.le_refl _)
  refine ⟨.ref s1.heap.objs.size, upd H1 s1.heap.objs.size (.frz { cls := .type "tuple", data := .seq us.toArray } (.tup xs)), I1.laid (t' := s1.toks) (fun b u e => Heap.get?_push_of_some _ e) (Nat.le_refl _) ?_, rfl, q _ _ hf rfl rfl⟩
  exact ⟨Heap.get?_push_size _ rfl, z, us, r, ⟨_, Heap.get?_push_size _ rfl, rfl, _, rfl⟩⟩
theorem call_tupleF : CallR X (.type "tuple") (fun xs H Q => ∃ p ys, xs = [.ref p] ∧ SqL X.K H p ys ∧ ∀ l o, H l = none → o.dict = none → o.cls = .type "tuple" → Q (.ref l) (upd H l (.frz o (.tup ys)))) := by
  intro pins s σ H xs us Q I r h
  obtain ⟨p, ys, rfl, hq, q⟩ := h
  obtain ⟨u, rfl, rx⟩ := vals1 r
  cases rx
  obtain ⟨its, r', pl, hz⟩ := I.list hq
  have hlen := r'.length
  refine call_tuple_list pl.isList (fun h' kp => ?_) (by simp only [List.size_toArray] <;> omega)
  have I1 : Inv X pins σ H { s with heap := h' } := I.kept (t' := s.toks) kp
  have I2 : Inv X pins σ (upd H h'.objs.size (.frz { cls := .type "tuple", data := .seq its.toArray } (.tup ys))) { s with heap := h'.push { cls := .type "tuple", data := .seq its.toArray } } :=
    I1.laid (t' := s.toks) (fun b o e => Heap.get?_push_of_some _ e) (Nat.le_refl _) (show ObjOk X.prog X.w _ _ _ (.frz _ (.tup ys)) from ⟨Heap.get?_push_size _ rfl, hz, its, r', IsTup.new _ _⟩)
  exact ⟨.ref h'.objs.size, _, I2, rfl, q _ _ (I1.hok.fresh (Nat.le_refl _)) rfl rfl⟩
theorem pairs_of2 {pins : List (Addr × Obj)} {σ : L2.St} {H : Hp} {s : Shared} (I : Inv X pins σ H s) : ∀ {ps : List Addr} {kvs : List (Key × V)}, Paired (fun p kv => SqT X.K H p [kV kv.1, kv.2]) ps kvs →
    ∃ (prs : List (Key × Value)) (pvs : List (Value × Value)), KV kvs prs ∧ prs.length = ps.length ∧ pvs.length = ps.length ∧ ∀ (j : Nat) (k v : Value), pvs[j]? = some (k, v) → ∃ (b : Addr) (q : Key), ps[j]? = some b ∧ IsTup s.heap b #[k, v] ∧ prs[j]? = some (q, v) ∧ keyIs q k = true
  | _, _, .nil => ⟨[], [], .nil, rfl, rfl, fun j k v e => by simp at e⟩
  | _, _, .cons (a := p) (b := kv) h t => by
    obtain ⟨prs, pvs, r, hl, hl2, hp⟩ := pairs_of2 I t
    obtain ⟨its, rv, ht, _⟩ := I.tuple h
    obtain ⟨u, y, ei, ru, ry⟩ := vals2 rv
    subst ei
    refine ⟨(kv.1, y) :: prs, (u, y) :: pvs, .cons ⟨rfl, ry⟩ r, by rw [List.length_cons, List.length_cons, hl], by rw [List.length_cons, List.length_cons, hl2], fun j k v e => ?_⟩
    cases j with
    | zero =>
      have e' : (u, y) = (k, v) := Option.some.inj e
      cases e'
      exact ⟨p, kv.1, rfl, ht, rfl, kV_is (P := X.prog) (w := X.w) ru⟩
    | succ j =>
      obtain ⟨b, q, e1, e2, e3, e4⟩ := hp j k v (by simpa using e)
      exact ⟨b, q, by simpa using e1, e2, by simpa using e3, e4⟩
/-- dict(t), t a known tuple of pairs (key, value) -/
theorem call_dictT (hcalm : X.calm = true) : CallR X (.type "dict") (fun xs H Q => ∃ (a : Addr) (o : Obj) (ps : List Addr) (kvs : List (Key × V)), xs = [.ref a] ∧ H a = some (.frz o (.tup (ps.map V.ref))) ∧ o.dict = none ∧ Paired (fun p kv => SqT X.K H p [kV kv.1, kv.2]) ps kvs ∧
    ∀ p, H p = none → Q (.ref p) (upd H p (.dK (mergeK [] kvs)))) := by
  intro pins s σ H xs us Q I r q
  obtain ⟨a, o, ps, kvs, ex, hq, hod, hp, q⟩ := q
  subst ex
  obtain ⟨u, eu, rx⟩ := vals1 r
  subst eu
  cases rx
  obtain ⟨hget, hz, its, rv, o', ho', hcls, nn, hdat⟩ := I.hok a _ hq
  rw [hget] at ho'
  cases ho'
  have ei := refs_at rv
  subst ei
  rw [List.length_map] at hz
  obtain ⟨prs, pvs, rel, hl, hl2, hpr⟩ := pairs_of2 I hp
  refine PySem.call_dict_pairs (knd := mixKind X.prog X.w) (kvs := prs) (PySem.PairArg.tuple a (ps.map Value.ref).toArray (fun j => ps.getD j 0) pvs) (I.ok.hd hcalm) ⟨⟨o, nn, hget, hcls, hod, hdat⟩, by simp [hl2], fun j k v e => ?_⟩ ⟨by rw [hl, hl2], fun i k v e => ?_⟩ (by rw [hl2]; exact hz) fun h' tk hd' k => ?_
  · obtain ⟨b, qq, e1, e2, e3, e4⟩ := hpr j k v e
    refine ⟨by simp [List.getD, e1], .inl ?_⟩
    show s.heap.IsTuple (ps.getD j 0) #[k, v]
    rw [show ps.getD j 0 = b by simp [List.getD, e1]]
    exact e2
  · obtain ⟨b, qq, e1, e2, e3, e4⟩ := hpr i k v e
    exact ⟨qq, e3, e4⟩
  · have hm : (s.heap.objs.size == sysModules) = false := beq_eq_false_iff_ne.mpr (Nat.ne_of_gt I.big)
    have hlen : (mergeK [] kvs).length ≤ sizeLine := by
      refine Nat.le_trans (length_mergeK kvs []) ?_
      rw [List.length_nil, Nat.zero_add, rel.length, hl]
      exact hz
    exact ⟨.ref s.heap.objs.size, upd H s.heap.objs.size (.dK (mergeK [] kvs)), I.laid (t' := tk) (fun b o e => k b o (by simp) e) (Nat.le_refl _) (show ObjOk X.prog X.w _ _ _ (.dK (mergeK [] kvs)) from ⟨hlen, hm, merged [] prs, KV.merge rel .nil, hd'⟩), rfl, q _ (I.hok.fresh (Nat.le_refl _))⟩
end
end Ba
namespace Ba
open PySem PySem.Spec PyProof.Rows L2
/-- x[i] of a list or of a tuple -/
def rIxA (K : PySem.W.Frag) : R2 := fun x y H Q => ∃ p xs i v, x = .ref p ∧ y = .int i ∧ (SqL K H p xs ∨ SqT K H p xs) ∧ atI xs i = some v ∧ Q v H
theorem ix_any {X : Cx} : IxR X (rIxA X.K) := by
  intro value slice pins s σ H x y v u Q I rx ry h hs
  obtain ⟨p, xs, i, z, rfl, rfl, hq, he, q⟩ := h
  rcases hq with hq | hq
  · exact ix_list value slice pins s σ H _ _ v u Q I rx ry ⟨p, xs, i, z, rfl, rfl, hq, he, q⟩ hs
  · exact ix_tup value slice pins s σ H _ _ v u Q I rx ry ⟨p, xs, i, z, rfl, rfl, hq, he, q⟩ hs
end Ba
namespace Ba
open PySem PySem.Spec PyProof.Rows L2
/-- a special method of a class, as len finds it -/
structure OneOk (P : Program) (w : World) (K : PySem.W.Frag) (mg : Str → Option Value) (base : Heap) (C : Addr) (m : Str) (k : Nat) (ps : List Str) (sp : Sp) : Prop where
  ex : ∃ (f : Addr) (fd : FuncData), FnOk P w K mg base (L2N.CX P w) k f fd ps sp ∧ PySem.W.findIn K (.ref C) m = some (some (.ref f)) ∧ PySem.W.isFn K (.ref f) = true ∧ Binds K fd ps []
theorem len_x {X : Cx} {C : Addr} {k : Nat} {ps : List Str} {sp : Sp} {E : XK} (D : OneOk X.prog X.w X.K X.mg X.base C "__len__" k ps sp) (hr : Room (k + 1) X.A) (hx : Passes (L2N.CX X.prog X.w) X E) :
    CallR X (.builtin "len") (fun xs H Q => ∃ a dx fs, xs = [V.ref a] ∧ H a = some (.ins C dx fs) ∧ sp [.ref a] H (fun v H' => ∃ n : Int, v = .int n ∧ 0 ≤ n ∧ n < 2 ^ 63 ∧ Q (.int n) H') E) := by
  obtain ⟨f, fd, F, hs, hf, hb⟩ := D
  exact one_len F hr hs hf hb hx
end Ba
namespace Ba
open PySem PySem.Spec PyProof.Rows L2
/-- a statement that is not reached -/
theorem ps_never {X : Cx} {st : Stmt} : PS X st (fun _ _ _ => False) := ⟨fun _ _ _ _ _ _ h => h.elim⟩
end Ba

set_option maxHeartbeats 400000
/-! Parts of the heap that are apart: a list of resources. -/
namespace Ba
open PySem PySem.Spec PyProof.Rows L2
structure Res where
  foot : List Addr
  P : Hp → Prop
structure Res.Ok (r : Res) : Prop where
  live : ∀ H, r.P H → ∀ x ∈ r.foot, H x ≠ none
  kp : ∀ H H' S, r.P H → Kp S H H' → (∀ x ∈ r.foot, x ∉ S) → r.P H'
/-- since H0 only S0 and new objects have changed; the resources rs hold at H, and are apart -/
structure Sep (S0 : List Addr) (H0 H : Hp) (rs : List Res) : Prop where
  k : Kp S0 H0 H
  p : ∀ (i : Nat) r, rs[i]? = some r → r.P H
  ok : ∀ (i : Nat) r, rs[i]? = some r → r.Ok
  fr : ∀ (i : Nat) r, rs[i]? = some r → ∀ x ∈ r.foot, x ∈ S0 ∨ H0 x = none
  dj : ∀ (i j : Nat) a b, i ≠ j → rs[i]? = some a → rs[j]? = some b → ∀ x ∈ a.foot, x ∉ b.foot
section
variable {S0 : List Addr} {H0 H H' : Hp} {rs : List Res} {r r' : Res}
theorem Sep.nil (H : Hp) : Sep S0 H H [] := ⟨Kp.refl _, fun i r e => by simp at e, fun i r e => by simp at e, fun i r e => by simp at e, fun i j a b _ e => by simp at e⟩
theorem Sep.one (ok : r.Ok) (p : r.P H) (hs : ∀ x ∈ r.foot, x ∈ S0) : Sep S0 H H [r] :=
  ⟨Kp.refl _, fun i a e => by
    match i with
    | 0 => simp at e; subst e; exact p
    | i + 1 => simp at e, fun i a e => by
    match i with
    | 0 => simp at e; subst e; exact ok
    | i + 1 => simp at e, fun i a e x hx => by
    match i with
    | 0 => simp at e; subst e; exact .inl (hs x hx)
    | i + 1 => simp at e, fun i j a b n e1 e2 => by
    match i, j with
    | 0, 0 => exact absurd rfl n
    | 0, j + 1 => simp at e2
    | i + 1, _ => simp at e1⟩
theorem Sep.at (s : Sep S0 H0 H rs) (i : Nat) (e : rs[i]? = some r) : r.P H := s.p i r e
theorem Sep.ext (s : Sep S0 H0 H rs) (k : Kp [] H H') : Sep S0 H0 H' rs :=
  ⟨s.k.trans (k.mono (by simp)), fun i r e => (s.ok i r e).kp H H' [] (s.p i r e) k (by simp), s.ok, s.fr, s.dj⟩
theorem Sep.set (s : Sep S0 H0 H rs) (i : Nat) (e : rs[i]? = some r) (r' : Res) {S : List Addr} (k : Kp S H H') (hS : ∀ x ∈ S, x ∈ r.foot) (ok : r'.Ok) (p : r'.P H') (hf : ∀ x ∈ r'.foot, x ∈ r.foot ∨ H x = none) : Sep S0 H0 H' (rs.set i r') := by
  have hi := (List.getElem?_eq_some_iff.mp e).1
  have key : ∀ (j : Nat) a, (rs.set i r')[j]? = some a → (j = i ∧ a = r') ∨ (j ≠ i ∧ rs[j]? = some a) := fun j a h => by
    rw [List.getElem?_set] at h
    by_cases z : i = j
    · rw [if_pos z] at h
      rw [if_pos (by omega)] at h
      injection h with h
      exact .inl ⟨z.symm, h.symm⟩
    · rw [if_neg z] at h
      exact .inr ⟨fun y => z y.symm, h⟩
  refine ⟨?_, fun j a h => ?_, fun j a h => ?_, fun j a h x hx => ?_, fun j l a b n h1 h2 x hx => ?_⟩
  · refine Kp.less (S := S0 ++ S) ((s.k.mono (by simp +contextual)).trans (k.mono (by simp +contextual))) (fun b hb => ?_)
    rcases List.mem_append.mp hb with hb | hb
    · exact .inl hb
    · exact s.fr i r e b (hS b hb)
  · rcases key j a h with ⟨_, rfl⟩ | ⟨n, h⟩
    · exact p
    · exact (s.ok j a h).kp H H' S (s.p j a h) k (fun x hx z => s.dj j i a r n h e x hx (hS x z))
  · rcases key j a h with ⟨_, rfl⟩ | ⟨n, h⟩
    · exact ok
    · exact s.ok j a h
  · rcases key j a h with ⟨_, rfl⟩ | ⟨n, h⟩
    · rcases hf x hx with h1 | h1
      · exact s.fr i r e x h1
      · by_cases z : x ∈ S0
        · exact .inl z
        · right
          cases e0 : H0 x with
          | none => rfl
          | some o => rw [s.k.keep x o e0 z] at h1; cases h1
    · exact s.fr j a h x hx
  · rcases key j a h1 with ⟨e1, q1⟩ | ⟨n1, g1⟩
    · rcases key l b h2 with ⟨e2, q2⟩ | ⟨n2, g2⟩
      · exact absurd (e1.trans e2.symm) n
      · intro hb
        rw [q1] at hx
        rcases hf x hx with h3 | h3
        · exact s.dj i l r b (fun z => n2 z.symm) e g2 x h3 hb
        · exact (s.ok l b g2).live H (s.p l b g2) x hb h3
    · rcases key l b h2 with ⟨e2, q2⟩ | ⟨n2, g2⟩
      · intro hb
        rw [q2] at hb
        rcases hf x hb with h3 | h3
        · exact s.dj j i a r n1 g1 e x hx h3
        · exact (s.ok j a g1).live H (s.p j a g1) x hx h3
      · exact s.dj j l a b n g1 g2 x hx
theorem Sep.add (s : Sep S0 H0 H rs) (r' : Res) (k : Kp [] H H') (ok : r'.Ok) (p : r'.P H') (hf : ∀ x ∈ r'.foot, H x = none) : Sep S0 H0 H' (rs ++ [r']) := by
  have key : ∀ (j : Nat) a, (rs ++ [r'])[j]? = some a → (j = rs.length ∧ a = r') ∨ (j ≠ rs.length ∧ rs[j]? = some a) := fun j a h => by
    rw [List.getElem?_append] at h
    by_cases z : j < rs.length
    · rw [if_pos z] at h
      exact .inr ⟨by omega, h⟩
    · rw [if_neg z] at h
      have hj : j - rs.length = 0 := by
        rcases Nat.eq_zero_or_pos (j - rs.length) with q | q
        · exact q
        · rw [List.getElem?_eq_none (by simp; omega)] at h; cases h
      rw [hj] at h
      have h : some r' = some a := h
      injection h with h
      exact .inl ⟨by omega, h.symm⟩
  have fresh : ∀ x, H x = none → x ∈ S0 ∨ H0 x = none := fun x h1 => by
    by_cases z : x ∈ S0
    · exact .inl z
    · right
      cases e0 : H0 x with
      | none => rfl
      | some o => rw [s.k.keep x o e0 z] at h1; cases h1
  refine ⟨s.k.trans (k.mono (by simp)), fun j a h => ?_, fun j a h => ?_, fun j a h x hx => ?_, fun j l a b n h1 h2 x hx => ?_⟩
  · rcases key j a h with ⟨_, rfl⟩ | ⟨n, h⟩
    · exact p
    · exact (s.ok j a h).kp H H' [] (s.p j a h) k (by simp)
  · rcases key j a h with ⟨_, rfl⟩ | ⟨n, h⟩
    · exact ok
    · exact s.ok j a h
  · rcases key j a h with ⟨_, rfl⟩ | ⟨n, h⟩
    · exact fresh x (hf x hx)
    · exact s.fr j a h x hx
  · rcases key j a h1 with ⟨e1, q1⟩ | ⟨n1, g1⟩
    · rcases key l b h2 with ⟨e2, q2⟩ | ⟨n2, g2⟩
      · exact absurd (e1.trans e2.symm) n
      · exact fun hb => (s.ok l b g2).live H (s.p l b g2) x hb (hf x (q1 ▸ hx))
    · rcases key l b h2 with ⟨e2, q2⟩ | ⟨n2, g2⟩
      · exact fun hb => (s.ok j a g1).live H (s.p j a g1) x hx (hf x (q2 ▸ hb))
      · exact s.dj j l a b n g1 g2 x hx
/-- fewer, or others at less of the same places: each resource of the new list stands for another one of the old -/
theorem Sep.to (s : Sep S0 H0 H rs) (rs' : List Res) (f : Nat → Nat) (hf : ∀ i, i < rs'.length → ∀ j, j < rs'.length → f i = f j → i = j)
    (h : ∀ (i : Nat) r', rs'[i]? = some r' → ∃ r, rs[f i]? = some r ∧ (r.P H → r'.P H) ∧ r'.Ok ∧ ∀ x ∈ r'.foot, x ∈ r.foot) : Sep S0 H0 H rs' := by
  refine ⟨s.k, fun i a e => ?_, fun i a e => ?_, fun i a e x hx => ?_, fun i j a b n e1 e2 x hx hb => ?_⟩
  · obtain ⟨r, h1, h2, h3, h4⟩ := h i a e
    exact h2 (s.p _ _ h1)
  · obtain ⟨r, h1, h2, h3, h4⟩ := h i a e
    exact h3
  · obtain ⟨r, h1, h2, h3, h4⟩ := h i a e
    exact s.fr _ _ h1 x (h4 x hx)
  · obtain ⟨r1, h1, h2, h3, h4⟩ := h i a e1
    obtain ⟨r2, g1, g2, g3, g4⟩ := h j b e2
    have hi := (List.getElem?_eq_some_iff.mp e1).1
    have hj := (List.getElem?_eq_some_iff.mp e2).1
    exact s.dj _ _ _ _ (fun z => n (hf i hi j hj z)) h1 g1 x (h4 x hx) (g4 x hb)
/-- another view of resource i -/
theorem Sep.view (s : Sep S0 H0 H rs) (i : Nat) (e : rs[i]? = some r) (r' : Res) (p : r.P H → r'.P H) (ok : r'.Ok) (hf : ∀ x ∈ r'.foot, x ∈ r.foot) : Sep S0 H0 H (rs.set i r') :=
  s.set i e r' (Kp.refl (S := []) H) (by simp) ok (p (s.p i r e)) (fun x hx => .inl (hf x hx))
theorem Sep.take (s : Sep S0 H0 H rs) (n : Nat) : Sep S0 H0 H (rs.take n) := by
  have key : ∀ (i : Nat) r', (rs.take n)[i]? = some r' → rs[i]? = some r' := fun i r' e => by
    rw [List.getElem?_take] at e
    split at e
    · exact e
    · cases e
  exact s.to _ (fun i => i) (fun _ _ _ _ z => z) (fun i r' e => ⟨r', key i r' e, fun z => z, s.ok i r' (key i r' e), fun _ z => z⟩)
/-- the last resource joins another one -/
theorem Sep.merge {rl : Res} (s : Sep S0 H0 H (rs ++ [rl])) (i : Nat) (e : rs[i]? = some r) (r' : Res) {S : List Addr} (k : Kp S H H') (hS : ∀ x ∈ S, x ∈ r.foot ∨ x ∈ rl.foot) (ok : r'.Ok) (p : r'.P H') (hf : ∀ x ∈ r'.foot, x ∈ r.foot ∨ x ∈ rl.foot ∨ H x = none) : Sep S0 H0 H' (rs.set i r') := by
  have hi := (List.getElem?_eq_some_iff.mp e).1
  have old : ∀ (j : Nat) a, rs[j]? = some a → (rs ++ [rl])[j]? = some a := fun j a h => by
    rw [List.getElem?_append, if_pos (List.getElem?_eq_some_iff.mp h).1]; exact h
  have last : (rs ++ [rl])[rs.length]? = some rl := by simp
  have lt : ∀ (j : Nat) a, rs[j]? = some a → j ≠ rs.length := fun j a h => by have := (List.getElem?_eq_some_iff.mp h).1; omega
  have s1 : Sep S0 H0 H (rs.set i ⟨r.foot ++ rl.foot, fun H => r.P H ∧ rl.P H⟩) := by
    have key : ∀ (j : Nat) a, (rs.set i ⟨r.foot ++ rl.foot, fun H => r.P H ∧ rl.P H⟩)[j]? = some a → (j = i ∧ a = ⟨r.foot ++ rl.foot, fun H => r.P H ∧ rl.P H⟩) ∨ (j ≠ i ∧ rs[j]? = some a) := fun j a h => by
      rw [List.getElem?_set] at h
      by_cases z : i = j
      · rw [if_pos z] at h
        rw [if_pos (by omega)] at h
        injection h with h
        exact .inl ⟨z.symm, h.symm⟩
      · rw [if_neg z] at h
        exact .inr ⟨fun y => z y.symm, h⟩
    refine ⟨s.k, fun j a h => ?_, fun j a h => ?_, fun j a h x hx => ?_, fun j l a b n h1 h2 x hx hb => ?_⟩
    · rcases key j a h with ⟨_, q⟩ | ⟨n, g⟩
      · rw [q]; exact ⟨s.p _ _ (old _ _ e), s.p _ _ last⟩
      · exact s.p _ _ (old _ _ g)
    · rcases key j a h with ⟨_, q⟩ | ⟨n, g⟩
      · rw [q]
        refine ⟨fun H h x hx => ?_, fun H H' S h k n => ⟨(s.ok _ _ (old _ _ e)).kp H H' S h.1 k (fun x hx => n x (List.mem_append_left _ hx)), (s.ok _ _ last).kp H H' S h.2 k (fun x hx => n x (List.mem_append_right _ hx))⟩⟩
        rcases List.mem_append.mp hx with hx | hx
        · exact (s.ok _ _ (old _ _ e)).live H h.1 x hx
        · exact (s.ok _ _ last).live H h.2 x hx
      · exact s.ok _ _ (old _ _ g)
    · rcases key j a h with ⟨_, q⟩ | ⟨n, g⟩
      · rw [q] at hx
        rcases List.mem_append.mp hx with hx | hx
        · exact s.fr _ _ (old _ _ e) x hx
        · exact s.fr _ _ last x hx
      · exact s.fr _ _ (old _ _ g) x hx
    · rcases key j a h1 with ⟨e1, q1⟩ | ⟨n1, g1⟩
      · rcases key l b h2 with ⟨e2, q2⟩ | ⟨n2, g2⟩
        · exact absurd (e1.trans e2.symm) n
        · rw [q1] at hx
          rcases List.mem_append.mp hx with hx | hx
          · exact s.dj i l r b (fun z => n2 z.symm) (old _ _ e) (old _ _ g2) x hx hb
          · exact s.dj rs.length l rl b (lt _ _ g2).symm last (old _ _ g2) x hx hb
      · rcases key l b h2 with ⟨e2, q2⟩ | ⟨n2, g2⟩
        · rw [q2] at hb
          rcases List.mem_append.mp hb with hb | hb
          · exact s.dj j i a r n1 (old _ _ g1) (old _ _ e) x hx hb
          · exact s.dj j rs.length a rl (lt _ _ g1) (old _ _ g1) last x hx hb
        · exact s.dj j l a b n (old _ _ g1) (old _ _ g2) x hx hb
  have s2 := s1.set i (by rw [List.getElem?_set, if_pos rfl, if_pos hi]) r' k (fun x hx => List.mem_append.mpr (hS x hx)) ok p (fun x hx => by
    rcases hf x hx with h | h | h
    · exact .inl (List.mem_append_left _ h)
    · exact .inl (List.mem_append_right _ h)
    · exact .inr h)
  rwa [List.set_set] at s2
/-- what a later heap is free at was free before -/
theorem Sep.free (s : Sep S0 H0 H rs) {x : Addr} (h : H x = none) (n : x ∉ S0) : H0 x = none := s.k.freeS h n
theorem Sep.ne (s : Sep S0 H0 H rs) (i : Nat) (e : rs[i]? = some r) {x : Addr} (h : H x = none) : x ∉ r.foot := fun z => (s.ok i r e).live H (s.p i r e) x z h
end
/-! ### common resources -/
def DatR (v : V) (d : PyData) : Res := ⟨[], fun H => Tp H v d⟩
theorem DatR.ok {v : V} {d : PyData} : (DatR v d).Ok := ⟨fun _ _ x hx => by simp [DatR] at hx, fun H H' S p k _ => Tp.kp p k⟩
/-- a list of data -/
def OpsR (a : Addr) (ds : List PyData) : Res := ⟨[a], fun H => ∃ xs, H a = some (.lst xs) ∧ TpAll H xs ds⟩
theorem OpsR.ok {a : Addr} {ds : List PyData} : (OpsR a ds).Ok := ⟨fun H ⟨xs, h, _⟩ x hx => by
    have hx : x = a := by simpa [OpsR] using hx
    rw [hx, h]; simp, fun H H' S ⟨xs, h, t⟩ k n => ⟨xs, k.keep _ _ h (n a (by simp [OpsR])), t.kp k⟩⟩
/-- any object that is known -/
def CellR (a : Addr) (o : HO) : Res := ⟨[a], fun H => H a = some o⟩
theorem CellR.ok {a : Addr} {o : HO} : (CellR a o).Ok := ⟨fun H h x hx => by
    have hx : x = a := by simpa [CellR] using hx
    have h : H a = some o := h
    rw [hx, h]; simp, fun H H' S h k n => k.keep _ _ h (n a (by simp [CellR]))⟩
/-- what stays whatever happens: tuples -/
def StayR (P : Hp → Prop) : Res := ⟨[], P⟩
theorem StayR.ok {P : Hp → Prop} (h : ∀ H H' S, P H → Kp S H H' → P H') : (StayR P).Ok := ⟨fun _ _ x hx => by simp [StayR] at hx, fun H H' S p k _ => h H H' S p k⟩
end Ba

set_option maxHeartbeats 400000
/-! A list against the empty one; == by the text's own __eq__, any answer. -/
namespace Ba
section
open PySem PySem.SeqAt GQ
open AutoSeq1 (wpAny_loadPart')
open MeetsSeq MeetsSeq2 MeetsSeq3 SeqRoads2
variable {prog : Program} {w : World} {A : Around} {E : Value → Shared → Prop} {s : Shared}
theorem rc_list_sz {l b : Addr} {items items2 : Array Value} {n n2 : Nat} {Q : Value → Shared → Prop} (hu : A.units < cLine)
    (hl1 : s.heap.get? l = some { cls := .type "list", data := .seq items n }) (hb1 : s.heap.get? b = some { cls := .type "list", data := .seq items2 n2 }) (hne : items.size ≠ items2.size) (q : Q (.bool false) s) :
    wpAny (model prog w) A (richCompare .Eq (.ref l) (.ref b)) Q E s := by
  refine wpAny_richCompare_same_room (op := .Eq) ⟨_, hl1, rfl⟩ ⟨_, hb1, rfl⟩ F.slot_list_eq (call_here F.slot_list_eq ⟨_, hl1, rfl⟩ F.entry_list_eq (F.args_list_eq_2 _ _) ?_) hu
  obtain ⟨hp, g, d, tk, os⟩ := s
  have f3 := AutoSeq1.sub_list_list
  have hne' : (items.size != items2.size) = true := by simp [hne]
  wp_walk using wpAny_loadPart' hl1, wpAny_loadPart' hb1
  exact ⟨(fun x => nomatch x), q⟩
end
open PySem PySem.Spec PyProof.Rows L2
section
variable {X : Cx}
theorem op_eqNil (hu : X.A.units < cLine) : OpR X (compareOp .Eq) (fun x y H Q => ∃ a b xs, x = .ref a ∧ y = .ref b ∧ H a = some (.lst xs) ∧ H b = some (.lst []) ∧ Q (.bl xs.isEmpty) H) := by
  intro pins s σ H x y v u Q I rx ry h
  obtain ⟨a, b, xs, rfl, rfl, ha, hb, q⟩ := h
  cases rx
  cases ry
  obtain ⟨z, its, k, r, e⟩ := I.hok a _ ha
  obtain ⟨z2, its2, k2, r2, e2⟩ := I.hok b _ hb
  cases r2
  show wpAny (model X.prog X.w) X.A (richCompare .Eq (.ref a) (.ref b)) _ X.xe s
  cases xs with
  | nil =>
    cases r
    refine GQ.rc_listG (N := 0) hu (fun _ s' => s' = s) (fun i s' e' => ?_) (fun s' e' => ?_) rfl
    · subst e'
      exact ⟨_, _, _, _, e, e2, rfl, rfl, fun h1 _ => by simp at h1⟩
    · subst e'
      exact ⟨.bl true, H, I, rfl, q⟩
  | cons y ys =>
    cases r with
    | cons r1 r2 =>
      exact rc_list_sz hu e e2 (by simp) ⟨.bl false, H, I, rfl, q⟩
end
section
variable {X : Cx} {n : Nat}
theorem op_eqOwn {CX : CXT} {C f : Addr} {fd : FuncData} {ps : List Str} {sp : Sp} {E : XK} (F : FnOk X.prog X.w X.K X.mg X.base CX n f fd ps sp)
    (hs : PySem.W.findIn X.K (.ref C) "__eq__" = some (some (.ref f))) (hf : PySem.W.isFn X.K (.ref f) = true) (hb : Binds X.K fd ps []) (hx : Passes CX X E) (hr : Room n X.A) :
    OpR X (compareOp .Eq) (fun x y H Q => ∃ a b dx dy fs gs, x = .ref a ∧ y = .ref b ∧ H a = some (.ins C dx fs) ∧ H b = some (.ins C dy gs) ∧ sp [.ref a, .ref b] H (fun v H' => ∃ r, v = .bl r ∧ Q (.bl r) H') E) := by
  intro pins s σ H x y u v Q I rx ry d
  obtain ⟨a, b, dx, dy, fs, gs, rfl, rfl, ha, hb', hsp⟩ := d
  cases rx
  cases ry
  obtain ⟨mA, J, _⟩ := ins_get I.hok ha
  obtain ⟨mB, J', _⟩ := ins_get I.hok hb'
  obtain ⟨od, J, _⟩ := J.look
  obtain ⟨od', J', _⟩ := J'.look
  obtain ⟨m, hF⟩ := I.fr
  show wpAny (model X.prog X.w) X.A (richCompare .Eq (.ref a) (.ref b)) _ X.xe s
  refine PySem.W.cmp_K (op := .Eq) (tb := .ref C) hr.units0 hF I.ok.mod.kin J J'.type (by simp [PySem.W.notFirst]) hs hf ?_
  have hl := F.len _ _ _ _ hsp
  have r2 : Vals [V.ref a, V.ref b] [Value.ref a, Value.ref b] := .cons rfl (.cons rfl .nil)
  refine wpAny_call (codeAny_mono (F.run X.A X.stack s H ⟨[.ref a, .ref b], []⟩ [.ref a, .ref b] [.ref a, .ref b] _ E hr I.env0 (by
    have := hb s [.ref a, .ref b] I.kIn (by simpa using hl)
    simpa using this) r2 hsp) fun r s' hq => ?_)
  cases r with
  | error e => exact hx pins σ H s e s' I hq
  | ok fl =>
    cases fl with
    | ret w =>
      obtain ⟨z, H', I', rz, k, ez, q⟩ := I.after hq
      subst ez
      cases rz
      exact ⟨.bl k, H', I', rfl, q⟩
    | next => exact False.elim hq
    | brk => exact False.elim hq
    | cont => exact False.elim hq
/-- == of two instances of the class, by its __eq__ -/
theorem eq_x {C : Addr} {k : Nat} {ps : List Str} {sp : Sp} {E : XK} (D : OneOk X.prog X.w X.K X.mg X.base C "__eq__" k ps sp) (hr : Room k X.A) (hx : Passes (L2N.CX X.prog X.w) X E) :
    OpR X (compareOp .Eq) (fun x y H Q => ∃ a b dx dy fs gs, x = .ref a ∧ y = .ref b ∧ H a = some (.ins C dx fs) ∧ H b = some (.ins C dy gs) ∧ sp [.ref a, .ref b] H (fun v H' => ∃ r, v = .bl r ∧ Q (.bl r) H') E) := by
  obtain ⟨f, fd, F, hs, hf, hb⟩ := D
  exact op_eqOwn F hs hf hb hx hr
end
end Ba

set_option maxHeartbeats 400000
/-! != by the text's own __eq__ (the class has none but object's __ne__). -/
namespace Ba
open PySem PySem.W
section
variable {prog : Program} {w : World} {A : Around} {E : Value → Shared → Prop} {s : Shared} {K : Frag} {x C f L : Addr} {ox : Obj} {od : Option Obj} {h₀ : Heap} {m : PySem.Str → Option Value}
theorem ifBoundB {M : Model} {name : PySem.Str} {id : String} {args : List Value} {Q : Option Value → Shared → Prop} (X : K.In s.heap) (I : InstAt s.heap x ox C od) (hs : findIn K (.ref C) name = some (some (.builtin id)))
    (hb : ∀ self, bindSpecial (.builtin id) self = pure (.builtin id, [self])) (h : wpAny M A (call (.builtin id) (.ref x :: args)) (fun v => Q (some v)) E s) : wpAny M A (callSpecialIfBound? (.ref x) name args) Q E s := by
  simp only [callSpecialIfBound?, bindSpecialIfBound?]
  have fin : wpAny M A (call (.builtin id) ([.ref x] ++ args) >>= fun v => pure (some v)) Q E s := wpAny_bind (wpAny_mono h (fun v s' h' => wpAny_pure h') fun _ _ h' => h')
  refine wpAny_holding (wpAny_bind (wpAny_bind (wpAny_bind (I.type.here ((looks_findIn X hs).here ?_)))))
  refine wpAny_bind (wpAny_askSetting (wpAny_ite ?_))
  split
  · exact wpAny_bind ((Looks.of_pure (hb _)).here (wpAny_pure (by exact fin)))
  · exact wpAny_tryCatch (wpAny_bind ((Looks.of_pure (hb _)).here (wpAny_pure (by exact fin))))
open Builtin in
theorem objNe {y : Value} {Q : Value → Shared → Prop} (hu : A.units + 1 < cLine) (X : K.In s.heap) (I : InstAt s.heap x ox C od) (hm : mroIn K C (.type "object") = some true) (he : findIn K (.ref C) "__eq__" = some (some (.ref f))) (hf : isFn K (.ref f) = true)
    (h : wpAny (model prog w) A.in1 (call (.ref f) [.ref x, y]) (fun v s' => ∃ b, v = .bool b ∧ Q (.bool (!b)) s') E s) : wpAny (model prog w) A (call (.builtin "object.__ne__") [.ref x, y]) Q E s := by
  have FB : CmpFacts "object" [.type "object"] := PySem.F.cmp_object
  refine wpAny_call (codeAny_call_builtin FB.ne.plain PySem.F.cmpEntry_ne (check_slot (i := "object.__ne__") (owner := "object") (n := "__ne__") PySem.F.cmpKind_ne PySem.F.cmpSplit_ne (I.type.andThen (looks_mroIn X hm)) (PySem.F.cmpArgs_ne _ _) ?_))
  unfold Builtin.«object.__ne__»
  refine wpAny_bind (m := slotArgs "__ne__" 1 _) (wpAny_pure ?_)
  refine wpAny_bind (m := cRoomFor _ _) (wpAny_cRoomFor hu ?_)
  refine wpAny_bind (m := callSpecialIfBound? (.ref x) (Str.ofString "__eq__") _) (ifBound_K X I he hf (wpAny_mono h (fun r s' hq => ?_) fun _ _ y => y))
  obtain ⟨b, rfl, hq⟩ := hq
  exact wpAny_bind (wpAny_truthy_bool (wpAny_pure hq))
theorem ne_K {y : Addr} {oy : Obj} {ody : Option Obj} {Q : Value → Shared → Prop} (hu : A.units + 1 < cLine) (X : K.In s.heap) (I : InstAt s.heap x ox C od) (J : InstAt s.heap y oy C ody) (hn : findIn K (.ref C) "__ne__" = some (some (.builtin "object.__ne__"))) (hm : mroIn K C (.type "object") = some true)
    (he : findIn K (.ref C) "__eq__" = some (some (.ref f))) (hf : isFn K (.ref f) = true)
    (h : wpAny (model prog w) A.in1 (call (.ref f) [.ref x, .ref y]) (fun v s' => ∃ b, v = .bool b ∧ Q (.bool (!b)) s') E s) : wpAny (model prog w) A (compareOp .NotEq (.ref x) (.ref y)) Q E s := by
  show wpAny (model prog w) A (richCompare .NotEq (.ref x) (.ref y)) Q E s
  have FB : CmpFacts "object" [.type "object"] := PySem.F.cmp_object
  unfold richCompare
  simp only [oneThing_ref]
  refine wpAny_holding (wpAny_bind (wpAny_cRoomFor (Nat.lt_of_succ_lt hu) ?_))
  rw [cmpInfo_NotEq]
  dsimp only
  refine wpAny_bind (I.type.here (wpAny_bind (J.type.here ?_)))
  rw [show (Value.ref C != Value.ref C) = false from by simp]
  simp only [Bool.false_eq_true, if_false]
  refine wpAny_bind (wpAny_pure ?_)
  simp only [Bool.false_eq_true, if_false]
  unfold tryCompare
  refine wpAny_bind (wpAny_bind (ifBoundB X I hn FB.ne.bind (objNe hu X I hm he hf (wpAny_mono h (fun v s' hv => ?_) fun _ _ e => e))))
  obtain ⟨b, rfl, hq⟩ := hv
  refine ⟨b, rfl, ?_⟩
  first | exact wpAny_pure hq | exact wpAny_pure (wpAny_pure hq)
end
open PySem PySem.Spec PyProof.Rows L2
/-- the class has object's __ne__ -/
structure NeC (K : PySem.W.Frag) (C : Addr) : Prop where
  ne : PySem.W.findIn K (.ref C) "__ne__" = some (some (.builtin "object.__ne__"))
  mro : PySem.W.mroIn K C (.type "object") = some true
section
variable {X : Cx} {n : Nat}
/-- != of two instances of the class, by its __eq__ -/
theorem ne_x {C : Addr} {k : Nat} {ps : List Str} {sp : Sp} {E : XK} (N : NeC X.K C) (D : OneOk X.prog X.w X.K X.mg X.base C "__eq__" k ps sp) (hr : Room (k + 1) X.A) (hx : Passes (L2N.CX X.prog X.w) X E) :
    OpR X (compareOp .NotEq) (fun x y H Q => ∃ a b dx dy fs gs, x = .ref a ∧ y = .ref b ∧ H a = some (.ins C dx fs) ∧ H b = some (.ins C dy gs) ∧ sp [.ref a, .ref b] H (fun v H' => ∃ r, v = .bl r ∧ Q (.bl (!r)) H') E) := by
  obtain ⟨f, fd, F, hs, hf, hb⟩ := D
  intro pins s σ H x y u v Q I rx ry d
  obtain ⟨a, b, dx, dy, fs, gs, rfl, rfl, ha, hb', hsp⟩ := d
  cases rx
  cases ry
  obtain ⟨mA, J, _⟩ := ins_get I.hok ha
  obtain ⟨mB, J', _⟩ := ins_get I.hok hb'
  obtain ⟨od, J, _⟩ := J.look
  obtain ⟨od', J', _⟩ := J'.look
  refine ne_K (by have := hr.un; omega) I.kIn J J' N.ne N.mro hs hf ?_
  have hl := F.len _ _ _ _ hsp
  have r2 : Vals [V.ref a, V.ref b] [Value.ref a, Value.ref b] := .cons rfl (.cons rfl .nil)
  refine wpAny_call (codeAny_mono (F.run X.A.in1 X.stack s H ⟨[.ref a, .ref b], []⟩ [.ref a, .ref b] [.ref a, .ref b] _ E hr.in1 I.env0.in1 (by
    have := hb s [.ref a, .ref b] I.kIn (by simpa using hl)
    simpa using this) r2 hsp) fun r s' hq => ?_)
  cases r with
  | error e => exact hx pins σ H s e s' I hq
  | ok fl =>
    cases fl with
    | ret w =>
      obtain ⟨z, H', I', rz, k, ez, q⟩ := I.after hq
      subst ez
      cases rz
      exact ⟨k, rfl, .bl (!k), H', I', rfl, q⟩
    | next => exact False.elim hq
    | brk => exact False.elim hq
    | cont => exact False.elim hq
end
end Ba

set_option maxHeartbeats 400000
/-! repr of data; a law that is asked where no repr is under way. -/
namespace Ba
open PySem PySem.Spec PyProof.Rows L2
section
variable {X : Cx}
theorem call_repr (hg : X.A.guards = some []) (hu : X.A.units + 64 < cLine) : CallR X (.builtin "repr") (fun xs H Q => ∃ a d, xs = [.ref a] ∧ Dp X.K H (.ref a) d ∧ d.showable = true ∧ d.hasDict = false ∧ d.depth ≤ 60 ∧ d.shown.length ≤ sizeLine ∧ Q (.str d.shown) H) := by
  intro pins s σ H xs us Q I r h
  obtain ⟨a, d, rfl, hd, hs, hn, hdep, hz, q⟩ := h
  cases r with
  | cons r1 r2 =>
    cases r2
    cases r1
    obtain ⟨as, rd⟩ := Dp.reads I d _ _ hd rfl
    exact repr_of_reads' rd hs (PyData.noDict_hsm hn) hg (by omega) (fun _ _ e => e) (fun h' u tk hk => ⟨.str d.shown, H, I.kept hk, ⟨_, rfl⟩, q⟩) hz
end
/-- a def's promise where no repr is under way -/
structure FnG (P : Program) (w : World) (K : PySem.W.Frag) (mg : Str → Option Value) (base : Heap) (CX : CXT) (k : Nat) (f : Addr) (fd : FuncData) (ps : List Str) (sp : Sp) : Prop where
  run : ∀ (A : Around) (outer : List Env) (s : Shared) (H : Hp) (args : Args) (us : List Value) (vs : List V) (Q : VK) (E : XK), A.guards = some [] → Room k A → Env0 P w K mg base A outer s H → BindsTo s fd args (ps.zip us) → Vals vs us → sp vs H Q E →
    codeAny (model P w) A (.call (.ref f) args) (CR CX outer P w H s Q E) s
/-- the around of a body knows the guards -/
theorem guards_deeper {A : Around} {env : Env} (h : A.guards = some []) : (A.deeper env).guards = some [] := by
  first | exact h | simpa [Around.deeper] using h
section
variable {P : Program} {w : World} {K : PySem.W.Frag} {mg : Str → Option Value} {base : Heap} {x qual : Str} {st : Stmt} {f : Addr} {fd : FuncData} {ps N : List Str} {k : Nat} {sp : Sp} {CX : CXT}
theorem okG (F : FunS K x qual st [] [] f fd) (S : FnScope N ps (defScope st)) (len : ∀ vs H Q E, sp vs H Q E → vs.length = ps.length)
    (hbody : ∀ (cdv : Value) (A : Around) (outer : List Env) (s : Shared) (H : Hp) (vs : List V) (Q : VK) (E : XK), (A.deeper (envOfC qual (defScope st) s.heap.objs.size f cdv)).guards = some [] → Room k (A.deeper (envOfC qual (defScope st) s.heap.objs.size f cdv)) → sp vs H Q E →
      ∃ t, PSs (cxOf CX P w K mg base N qual (defScope st) f cdv A outer s H E) (defBody st) t ∧ t { nx := fun _ H' => Q .non H', rt := Q } (start N vs) H) : FnG P w K mg base CX (k + 1) f fd ps sp := by
  obtain ⟨oc, od, dV, kV, doc, pm, an, cdv, ct, osl, rfl, lk, hcd, _, _⟩ := F.ex
  -- the rule for a promise that tells the around too
  refine ⟨fun A outer s H args us vs Q E hg hr e0 hb r hsp => ?_⟩
  have hN : ∀ vs' H' Q' E', (vs' = vs ∧ sp vs' H' Q' E') → vs'.length = ps.length := fun vs' H' Q' E' h => len _ _ _ _ h.2
  have hl := len _ _ _ _ hsp
  have up : ∀ (b : Addr) (o : Obj), base.get? b = some o → s.heap.get? b = some o := fun b o e => (e0.bs b o e).1
  have inK : K.In s.heap := e0.mod.kin.keeps up
  have noL : s.heap.NoLimit := e0.mod.nolimit.keeps up
  refine codeAny_call_function hr.depth (inK _ _ lk) rfl S.co S.gen rfl (PySem.W.codeRec_of inK hcd) (hb _ _ _ _ ?_)
  refine wpAny_newFunctionEnv_cells S.kind (fun y hy => ?_) fun env ee s1 z => ?_
  · obtain ⟨n, v⟩ := y
    cases S.par n (List.of_mem_zip hy).1 with
    | inl q => exact Or.inl q
    | inr q => exact Or.inr ⟨q, PySem.W.cellsFrom_some _ _ _ (Or.inl q)⟩
  · subst ee
    obtain ⟨t, ht, hq⟩ := hbody cdv A outer s H vs Q E (guards_deeper hg) (hr.deeper _) hsp
    refine ⟨noL.keeps z.toInCall.keep, codeAny_func (wpAny_mono (ht.run [] s1 (start N vs) H _ (inv_start S hr.hd e0 hl r z) hq) (fun fl s' hs => ?_) fun _ _ hs => hs)⟩
    cases fl with
    | brk => obtain ⟨_, _, _, q⟩ := hs; exact False.elim q
    | cont => obtain ⟨_, _, _, q⟩ := hs; exact False.elim q
    | next =>
      obtain ⟨σ', H', J, q⟩ := hs
      exact ⟨.non, H', J.os, J.bare, J.base, J.hok, rfl, q⟩
    | ret u =>
      obtain ⟨v, σ', H', J, rv, q⟩ := hs
      exact ⟨v, H', J.os, J.bare, J.base, J.hok, rv, q⟩
end
/-- the call of a law that is promised where no repr is under way -/
theorem law_callG {P : Program} {w : World} {K : PySem.W.Frag} {mg mb : Str → Option Value} {k : Nat} {fa a : Addr} {fd : FuncData} {x : Str} {sp : Sp} {s₁ : Shared} {vs : List Value} {ns : List Int}
    (KX : K.In s₁.heap) (hns : s₁.heap.Ns mainGlobals mg) (hb : s₁.heap.Ns builtinsNs mb) (hbb : ∀ y : Str, y ≠ "__name__" → mb y = bootBuiltins y) (hlim : s₁.heap.NoLimit)
    (hgn : s₁.gens = #[]) (ha : s₁.heap.get? a = some { cls := .type "list", data := .seq vs.toArray }) (hi : IntsAre vs ns) (hl : ns.length ≤ sizeLine) (hr : Room k callerA)
    (F : ∀ base : Heap, K.In base → base.Ns mainGlobals mg → FnG P w K mg base (L2N.CX P w) k fa fd [x] sp) (hbind : ∀ (s : Shared) (u : Value), BindsTo s fd ⟨[u], []⟩ [(x, u)])
    (hsp : ∀ H : Hp, Only H → SqL K H a (ns.map V.int) → sp [.ref a] H (fun v _ => v = .bl true) fun _ _ _ => False) :
    codeAny (model P w) callerA (.call (.ref fa) ⟨[.ref a], []⟩) (fun r s' => r = .ok (.ret (.bool true)) ∧ OldK s₁.heap s'.heap ∧ s'.os = s₁.os ∧ AllBare s'.gens) s₁ := by
  have rv := vals_ints hi
  have core : ∀ H : Hp, Only H → SqL K H a (ns.map V.int) → HOk P w H s₁.heap → (∀ b, H b ≠ none → b = a) → (H a ≠ none → K.lookup a = none) →
      codeAny (model P w) callerA (.call (.ref fa) ⟨[.ref a], []⟩) (fun r s' => r = .ok (.ret (.bool true)) ∧ OldK s₁.heap s'.heap ∧ s'.os = s₁.os ∧ AllBare s'.gens) s₁ := by
    intro H hO hS hok only notK
    have put : ∀ {b : Addr} {o : Obj}, s₁.heap.get? b = some o → (H b ≠ none → False) → (hidT s₁.heap H).get? b = some o := fun {b o} e n => hidT_get e (by
      cases q : H b with
      | none => rfl
      | some u => exact absurd (by rw [q]; simp) n)
    have keepNs : ∀ {b : Addr} {m : Str → Option Value}, s₁.heap.Ns b m → (hidT s₁.heap H).Ns b m := by
      rintro b m ⟨o, es, ep, e, d, r⟩
      refine ⟨o, es, ep, put e fun z => ?_, d, r⟩
      obtain rfl := only b z
      rw [ha] at e
      cases e
      exact nomatch (show Data.seq vs.toArray _ = Data.dict es ep from d)
    have keepK : K.In (hidT s₁.heap H) := fun b o e => put (KX b o e) fun z => by
      obtain rfl := only b z
      rw [notK z] at e
      cases e
    obtain ⟨mc, l1, l2⟩ := hlim
    have e0 : Env0 P w K mg (hidT s₁.heap H) callerA [] s₁ H :=
      { frames := rfl, mod := ⟨keepK, keepNs hns, ⟨mb, keepNs hb, hbb⟩, ⟨mc, keepNs l1, l2⟩⟩, bs := fun b o e => of_hidT e, bsz := Nat.le_of_eq (hidT_size _ _), funs := trivial, frf := fun b z => absurd (show b ∈ ([] : List Addr) from z) (by simp), hok := hok, bare := .of_eq hgn }
    have go := (F _ keepK (keepNs hns)).run callerA [] s₁ H ⟨[.ref a], []⟩ [.ref a] [.ref a] (fun v _ => v = .bl true) (fun _ _ _ => False) rfl hr e0 (hbind s₁ (.ref a)) (.cons rfl .nil) (hsp H hO hS)
    refine codeAny_mono go fun r s' h => ?_
    cases r with
    | error e =>
      obtain ⟨_, _, _, _, _, _, _, _, _, _, _, _, z⟩ := h
      exact z.elim
    | ok fl =>
      cases fl with
      | ret u =>
        obtain ⟨v, H', os, bare, un, hok', r', q⟩ := h
        cases (show v = .bl true from q)
        cases (show u = Value.bool true from r')
        refine ⟨rfl, OldK.of_keep fun b o e => ?_, os, bare⟩
        rcases hO b with z | ⟨ob, xs, z⟩
        · exact un.keep b o e z (fun n => absurd (show b ∈ ([] : List Addr) from n) (by simp)) (by simp)
        · have after := (hok' b _ (un.frzs b ob _ z)).1
          have before := (hok b _ z).1
          rw [before] at e
          rw [← Option.some.inj e]
          exact after
      | next => exact h.elim
      | brk => exact h.elim
      | cont => exact h.elim
  have len2 : vs.length = ns.length := hi.length
  cases hk : K.lookup a with
  | some o =>
    have e := KX a o hk
    rw [ha] at e
    cases e
    exact core (fun _ => none) (fun _ => .inl rfl) (.inr ⟨_, vs.toArray, _, hk, rfl, rfl, rfl, by rw [List.size_toArray, len2]; exact hl, by simpa using rv⟩) (fun b u z => nomatch (show (none : Option HO) = some u from z)) (fun b z => absurd rfl z) fun z => absurd rfl z
  | none =>
    let G : Hp := upd (fun _ => none) a (.frz { cls := .type "list", data := .seq vs.toArray } (.lst (ns.map V.int)))
    have at_a : G a = some (.frz { cls := .type "list", data := .seq vs.toArray } (.lst (ns.map V.int))) := upd_same
    have off : ∀ {b : Addr}, b ≠ a → G b = none := fun n => upd_ne n
    refine core G (fun b => ?_) (.inl (.inr ⟨{ cls := .type "list", data := .seq vs.toArray }, at_a⟩)) (fun b u z => ?_) (fun b z => ?_) fun _ => hk
    · rcases Nat.decEq b a with n | n
      · exact Or.inl (off n)
      · subst n
        exact Or.inr ⟨_, _, at_a⟩
    · rcases Nat.decEq b a with n | n
      · rw [off n] at z
        cases z
      · subst n
        rw [at_a] at z
        cases z
        exact ⟨ha, by rw [List.length_map]; exact hl, vs, _, rv, ha⟩
    · rcases Nat.decEq b a with n | n
      · exact absurd (off n) z
      · exact n
/-- the walk of such a law -/
theorem walk_wG {l : PySem.W.OpenLaw} {n k : Nat} {q : Program} {loose : List Str} {XP : (Str → Option Value) → Heap → Prop} {YP : World → Heap → Prop} {d : DefRec} {x : Str}
    (hn : l.most = some n) (hn2 : n ≤ sizeLine) (hdf : d.params.defaults = []) (hr : L2.Room k callerA)
    (F : ∀ (w : World) (mg : Str → Option Value) (fa : Addr) (h : Heap), YP w h → h.Ns mainGlobals mg → mg d.name = some (.ref fa) →
      ∃ (K : PySem.W.Frag) (fd : FuncData) (sp : Sp), K.In h ∧ (∀ (s : Shared) (u : Value), BindsTo s fd ⟨[u], []⟩ [(x, u)]) ∧
        (∀ (H : Hp) (a : Addr) (ns : List Int), ns.length ≤ n → Only H → SqL K H a (ns.map V.int) → sp [.ref a] H (fun v _ => v = .bl true) fun _ _ _ => False) ∧
        ∀ base : Heap, K.In base → base.Ns mainGlobals mg → FnG l.prog w K mg base (L2N.CX l.prog w) k fa fd [x] sp) :
    PySem.W.WalkO q loose XP YP l.row.toRowW d [] (fun f vs => PySem.call f vs) := by
  refine Att.attach_call hn hdf fun w s₀ s₁ mg mb fa o pm cd doc a vs ns G Y ho hd hcd hmg hobj hints hlen hg => ?_
  obtain ⟨K, fd, sp, KX, hb, hsp, hF⟩ := F w mg fa _ Y G.T.g hmg
  exact law_callG KX G.T.g G.T.b G.T.builtins G.T.nolimit hg hobj hints (Nat.le_trans hlen hn2) hr hF hb fun H hO hS => hsp H a ns hlen hO hS
end Ba

set_option maxHeartbeats 400000
/-! A list comprehension whose element may raise. -/
namespace Ba
open PySem PySem.Spec PyProof.Rows L2
theorem funFrames_less {h B B' : Heap} (k : ∀ b, B.get? b = none → B'.get? b = none) : ∀ {l : List Env}, h.FunFrames B l → h.FunFrames B' l
  | [], _ => trivial
  | _ :: _, ⟨a, ⟨L, o, e1, e2, e3, e4⟩, r⟩ => ⟨a, ⟨L, o, e1, k _ e2, e3, e4⟩, funFrames_less k r⟩
theorem sky_noted {M : Model} {A : Around} {E : Value → Shared → Prop} {s : Shared} {env : Env} {outer : List Env} {B : Heap} {L a : Addr} {Z : Obj → Prop} {Q : Unit → Shared → Prop} (hZ : PXN.Steady1 Z) (hfr : A.frames = some (env :: outer)) (hf : env.frame = some L)
    (x : Sky B (env :: outer) a Z L s.heap) (hQ : ∀ h', HandSPX.HeldZ B (env :: outer) a Z L h' → s.heap.UpToSlots h' → Q () { s with heap := h' }) : wpAny M A (noteFrame (.ref a) env) Q E s := by
  rcases x with ⟨hB, hn, hl, oe, vs, he, hz, hd, h1⟩ | fl | hh
  · exact PXN.look_newZ hZ hfr hl hf he hB hn hd h1 hz hQ
  · exact PXN.looks_onZ hZ hfr hf fl hQ
  · exact HandSPX.againZ hf hh.2.2.2 (hQ s.heap hh (Heap.UpToSlots.refl _))
section
variable {X : Cx} {W : XK} {pins : List (Addr × Obj)} {σ : L2.St} {H : Hp} {s s' : Shared}
/-- a callee's exception goes out of the comprehension's block -/
theorem comp_fail (hs : X.stack = X.env :: X.outer) (hf : X.env.frame = some X.env.locals) (tk : L2N.Takes X (fun cls d _ H => W cls d H)) (I : L2.Inv X pins σ H s) {ce : Env} (cf : ce.frame = X.env.frame) (fC : FpOk X pins H ce.locals) {m : Str → Option Value} (hn : s.heap.Ns ce.locals m) {u : Value}
    (c : L2N.CX X.prog X.w X.stack H s W u s') : notedBy (model X.prog X.w) X.A ce (CompFails (model X.prog X.w) X.A X.xe ce) u s' := by
  obtain ⟨oC, es, ep, eC, dC, rC⟩ := hn
  have hfr : X.A.frames = some (X.env :: X.outer) := by rw [I.ok.frames, hs]
  obtain ⟨f0, f1, f2, f3, f4, f5⟩ := id fC
  have hCs : ce.locals ∉ frs X.stack := by
    rw [hs]
    unfold frs
    rw [List.filterMap_cons, hf]
    exact fun z => (List.mem_cons.mp z).elim f1 f2
  have c2 : L2N.CX X.prog X.w X.stack H s (fun cls d H' => W cls d H' ∧ H' ce.locals = none) u s' ∧ s'.heap.get? ce.locals = some oC := by
    obtain ⟨a, B, H', cls, d, e, fl, hok, ub, na, os, ag, hE⟩ := c
    exact ⟨⟨a, B, H', cls, d, e, fl, hok, ub, na, os, ag, hE, ub.free _ oC eC f0⟩, fl.1 _ _ (ub.keep _ oC eC f0 hCs)⟩
  have nC : s'.heap.Ns ce.locals m := ⟨oC, es, ep, c2.2, dC, rC⟩
  obtain ⟨a, B, sI, pins2, σ2, H2, cls, d, rfl, I2, nb, up, sky, na, os, ag, w⟩ := L2N.XE.of_call (W := fun cls d _ H => W cls d H ∧ H ce.locals = none) I (fun _ _ _ h => h) c2.1
  show wpAny (model X.prog X.w) X.A (noteFrame (.ref a) ce) _ _ s'
  rw [noteFrame_env _ cf]
  rw [hs] at sky
  refine sky_noted L2N.Zn.steady hfr hf sky fun h1 hh up1 => ?_
  refine ⟨m, nC.upToSlots up1, fun h2 m2 hn2 hs2 => ?_⟩
  obtain ⟨G, g1, g2⟩ := restrict sI.heap (fun b => decide (b ≠ ce.locals))
  obtain ⟨B', b1, b2⟩ := restrict B (fun b => decide (b ≠ ce.locals))
  have gG : ∀ b o, b ≠ ce.locals → sI.heap.get? b = some o → G.get? b = some o := fun b o n e => by rw [g1 b (decide_eq_true n)]; exact e
  have ofG : ∀ b o, G.get? b = some o → b ≠ ce.locals ∧ sI.heap.get? b = some o := fun b o e => by
    by_cases z : b = ce.locals
    · rw [g2 b (decide_eq_false (fun n => n z))] at e
      cases e
    · exact ⟨z, by rw [← g1 b (decide_eq_true z)]; exact e⟩
  have ofB : ∀ b o, B'.get? b = some o → b ≠ ce.locals ∧ B.get? b = some o := fun b o e => by
    by_cases z : b = ce.locals
    · rw [b2 b (decide_eq_false (fun n => n z))] at e
      cases e
    · exact ⟨z, by rw [← b1 b (decide_eq_true z)]; exact e⟩
  have noB : ∀ b, B.get? b = none → B'.get? b = none := fun b e => by
    cases q : B'.get? b with
    | none => rfl
    | some o =>
      have := (ofB b o q).2
      rw [e] at this
      cases this
  have hh2 : HandSPX.HeldZ B' (X.env :: X.outer) a (L2N.Zn cls d) X.env.locals h2 := by
    obtain ⟨k1, k2, k3, oe, vs, T, oT, ts, he, hz, hd, t1, hnT, hTe, hT, hdT, t3⟩ := hh
    have ne : ∀ {b : Addr} {o : Obj} {vs : Array Value}, h1.get? b = some o → o.data = .fields vs → b ≠ ce.locals := fun {b o vs} e dd z => by
      obtain ⟨o2, es2, ep2, e2, d2, _⟩ := nC.upToSlots up1
      rw [z, e2] at e
      cases e
      rw [d2] at dd
      cases dd
    refine ⟨fun b o e => ?_, noB _ k2, funFrames_less noB (Heap.FunFrames.sameBut hs2 hn2 k3), oe, vs, T, oT, ts, ?_, hz, hd, t1, noB _ hnT, hTe, ?_, hdT, t3⟩
    · obtain ⟨z, e⟩ := ofB b o e
      rw [hs2.2 b z]
      exact k1 b o e
    · rw [hs2.2 a (ne he hd)]
      exact he
    · rw [hs2.2 T (ne hT hdT)]
      exact hT
  have I3 : L2.Inv X [] σ2 H2 { sI with heap := G, toks := sI.toks } := Inv.turned (it := ce.locals) (I2.unpinned (pins := [])) (fun b o n e => gG b o n e) w.2 f1 f3 f4 (fun p hp => f5 p (by
    rcases List.mem_append.mp hp with h | h
    · exact List.mem_append_left _ h
    · cases h))
  obtain ⟨k1, k2, k3, oe, vs, T, oT, ts, he, hz, hd, t1, hrest⟩ := id hh2
  unfold PySem.passOn
  refine wpAny_bind (wpAny_field he hd t1 ?_)
  rw [if_neg (show ¬ ((Value.ref T == Value.none) = true) from by simp)]
  rw [cf, hf]
  refine wpAny_bind (HandSPX.setFlight_onZ hh2 fun h3 hh3 up3 => wpAny_throw (tk _ _ ⟨a, B', { sI with heap := G, toks := sI.toks }, [], σ2, H2, cls, d, rfl, I3, fun b o e nf => ?_, fun b o e hnf => ?_, .inr (.inr (by rw [hs]; exact hh3)), na, os, ag, w.1⟩))
  · obtain ⟨z, e⟩ := ofG b o e
    rw [b1 b (decide_eq_true z)]
    exact nb b o e nf
  · obtain ⟨z, e⟩ := ofG b o e
    obtain ⟨sl1, q1⟩ := up b o e hnf
    obtain ⟨sl2, q2⟩ := up1 b _ q1 hnf
    have q2 : h1.get? b = some { o with slots := sl2 } := q2
    rw [← hs2.2 b z] at q2
    obtain ⟨sl3, q3⟩ := up3 b _ q2 hnf
    exact ⟨sl3, q3⟩
/-- what stands does not hang on the wish about exceptions -/
theorem inv_xe {q : Value → Shared → Prop} (I : L2.Inv X pins σ H s) : L2.Inv { X with xe := q } pins σ H s :=
  ⟨⟨I.ok.mod, I.ok.kind, I.ok.glob, I.ok.blt, I.ok.above, I.ok.inj, I.ok.has, I.ok.cab, I.ok.hd, I.ok.frames, I.ok.stk, I.ok.exf, I.ok.bs, I.ok.bsz, I.ok.noex, I.ok.exfs, I.ok.funs, I.ok.frf⟩, I.os, I.bare, I.base, I.loc, I.cell, I.free, I.freeC, I.pin, I.hok, I.len⟩
/-- the context of a block whose element may let an exception of a callee out -/
abbrev blkE (X : Cx) (W : XK) (s : Shared) (H : Hp) (scope : Scope) (ce : Env) (fp : List Addr) : Cx :=
  { X.blk s H scope ce fp with xe := fun u s' => ∃ (pl : List (Addr × Obj)) (τ : L2.St) (G : Hp) (sc : Shared), L2.Inv (X.blk s H scope ce fp) pl τ G sc ∧ L2N.CX X.prog X.w X.stack G sc W u s' }
theorem passBE {X : Cx} {W : XK} {s : Shared} {H : Hp} {scope : Scope} {ce : Env} {fp : List Addr} : Passes (L2N.CX X.prog X.w) (blkE X W s H scope ce fp) W := fun pl τ G sc u s' I c => ⟨pl, τ, G, sc, inv_xe (q := fun _ _ => False) I, c⟩
theorem lcE_core {Q : VK} {elt tg iter : Expr} {ifs : List Expr} {scope : Scope} {own : List (Str × Nat)} {pos pos' : Pos} {wi : TI} {g : TG} {tt : TT} {te : TE} {use : Option (Value → Sem Unit)} {Qf : Value → Shared → Prop}
    (calm : X.calm = true) (nd : X.N.Nodup) (stk : X.stack = X.env :: X.outer) (frm : X.env.frame = some X.env.locals) (tk : L2N.Takes X (fun cls d _ H => W cls d H)) (I : L2.Inv X pins σ H s) (hi : PI X tg iter wi) (ok : BlkOk X.N X.env.scope scope own)
    (hg : ∀ (t : Shared) (G : Hp) (C : Addr) (cl : List (Str × Addr)) (fp : List Addr), PG (X.blk t G scope (compEnvC scope cl C X.env) fp) tg g)
    (ht : ∀ (t : Shared) (G : Hp) (C : Addr) (cl : List (Str × Addr)) (fp : List Addr), PTs (X.blk t G scope (compEnvC scope cl C X.env) fp) ifs tt)
    (he : ∀ (t : Shared) (G : Hp) (C : Addr) (cl : List (Str × Addr)) (fp : List Addr), PE (blkE X W t G scope (compEnvC scope cl C X.env) fp) elt te)
    (fold : ∀ x, foldedSetIterable iter X.env x = pure x) (h : tLc wi g tt te (own.map (·.2)) σ H Q)
    (fin : ∀ D ce s' m G, L2.Inv X pins σ G s' → Q (.ref D) G → s'.heap.Ns ce.locals m → FpOk X pins G ce.locals → compEnds (model X.prog X.w) X.A X.xe use Qf (.ref D) ce (.ok .next) s') :
    wpAny (model X.prog X.w) X.A (comprehension (.ListComp elt [⟨tg, iter, ifs, 0⟩] scope pos) scope X.env pos' (newList []) false (eval iter X.env) use) Qf X.xe s := by
  have capt : ∀ y ∈ scope.names, y.2 = .free → ∃ c, X.env.cells.lookup y.1 = some c := fun y hy e => I.ok.has _ ((ok.free y hy e).imp id id)
  refine comprehension_at (use := use) rfl fold (closure_ok capt) ok.kind (fun y hy e => by rw [ok.uniq y hy, e]) ?_
  refine thn (hi.run pins s σ H _ I h) fun xv s1 hx => thn hx fun itv s2 ⟨it, fp, tn, J, H2, e, I2, T, st2, f2, q⟩ => ?_
  subst e
  refine wpAny_newObj_type (newEnv_comp ?_) (by show 0 ≤ sizeLine; decide)
  obtain ⟨D, hD⟩ : ∃ D, D = s2.heap.objs.size := ⟨_, rfl⟩
  have freshD : H2 D = none := I2.hok.fresh (Nat.le_of_eq hD.symm)
  obtain ⟨V0, ⟨m0, v0⟩, turn⟩ := q D freshD
  rw [← hD]
  obtain ⟨s3, hs3⟩ : ∃ s3 : Shared, s3 = { s2 with heap := s2.heap.push { cls := .type "list", data := .seq ([] : List Value).toArray } } := ⟨_, rfl⟩
  have h3 : s3.heap = s2.heap.push { cls := .type "list", data := .seq ([] : List Value).toArray } := by rw [hs3]
  obtain ⟨H3, hH3⟩ : ∃ H3 : Hp, H3 = upd H2 D (.lst []) := ⟨_, rfl⟩
  rw [← hH3] at v0
  have I3 : L2.Inv X pins σ H3 s3 := by
    rw [hs3, hH3]
    exact I2.laid (t' := s2.toks) (fun b o e => Heap.get?_push_of_some _ e) (Nat.le_of_eq hD.symm) ⟨Nat.zero_le _, [], 0, .nil, by rw [hD]; exact Heap.get?_push_size _ rfl⟩
  have f3 : ∀ b ∈ fp, FpOk X pins H3 b ∧ b < s3.heap.objs.size := fun b hb => by
    obtain ⟨o, eo, _⟩ := T.obj _ _ st2 b hb
    have lt := Heap.lt_size eo
    have nD : b ≠ D := by rw [hD]; exact Nat.ne_of_lt lt
    refine ⟨⟨by rw [hH3, upd_ne nD]; exact (f2 b hb).1, (f2 b hb).2⟩, ?_⟩
    rw [h3, Heap.size_push]
    exact Nat.lt_succ_of_lt lt
  have I4 := block_start I3 ok nd f3
  rw [← hs3]
  obtain ⟨ce, hce⟩ : ∃ ce, ce = compEnvC scope (cellsFrom (s3.heap.objs.size + 1) scope.names (cloFrom X.env.cells scope.names [])) s3.heap.objs.size X.env := ⟨_, rfl⟩
  have pg : PG (X.blk s3 H3 scope ce fp) tg g := by rw [hce]; exact hg _ _ _ _ _
  have pt : PTs (X.blk s3 H3 scope ce fp) ifs tt := by rw [hce]; exact ht _ _ _ _ _
  have pe : PE (blkE X W s3 H3 scope ce fp) elt te := by rw [hce]; exact he _ _ _ _ _
  have cL : ce.locals = s3.heap.objs.size := by rw [hce]; rfl
  have cF : ce.frame = X.env.frame := by rw [hce]; rfl
  rw [← hce] at I4
  obtain ⟨s4, hs4⟩ : ∃ s4 : Shared, s4 = { s3 with heap := pushCells (s3.heap.push { cls := .type "dict", data := .dict #[] }) scope.names } := ⟨_, rfl⟩
  rw [← hs4] at I4
  have goal : codeAny (model X.prog X.w) X.A (.compStart (.ListComp elt [⟨tg, iter, ifs, 0⟩] scope pos) 0 (.ref it) (.ref D) ce) (compEnds (model X.prog X.w) X.A X.xe use Qf (.ref D) ce) s4 := by
    have st3 : tn 0 s3.heap := T.keep _ _ _ st2 fun b _ o e => by rw [h3]; exact Heap.get?_push_of_some _ e
    have st4 : tn 0 s4.heap := T.keep _ _ _ st3 fun b _ o e => by rw [hs4]; exact pushCells_keeps _ _ _ _ (Heap.get?_push_of_some _ e)
    have nfp : ∀ b ∈ fp, H3 b = none := fun b hb => (f3 b hb).1.1
    have stat : ∀ {τ : L2.St} {G : Hp} {t : Shared}, L2.Inv (X.blk s3 H3 scope ce fp) [] τ G t → (∀ b ∈ fp, G b = none) → ∀ b ∈ fp, FpOk (X.blk s3 H3 scope ce fp) [] G b := fun {τ G t} J' hn b hb =>
      ⟨hn b hb, (J'.ok.exf b hb).1, J'.ok.exfs b hb, .inl hb, fun x c e => (J'.ok.exf b hb).2 x c e, fun p hp => by cases (show p ∈ ([] : List (Addr × Obj)) ++ [] from hp)⟩
    -- back in the def's context
    have back : ∀ {pl : List (Addr × Obj)} {τ : L2.St} {G : Hp} {t : Shared}, L2.Inv (X.blk s3 H3 scope ce fp) pl τ G t → L2.Inv X pins σ G t ∧ FpOk X pins G ce.locals ∧ ∃ m, t.heap.Ns ce.locals m := fun {pl τ G t} J' => by
      have noC : G ce.locals = none := J'.free
      obtain ⟨m, hn, _⟩ := J'.loc
      refine ⟨I3.call' (ch := fp) J'.os J'.base J'.hok J'.bare fun b hb => ?_, I3.fpOk (by rw [cL]; exact Nat.le_refl _) noC, m, hn⟩
      obtain ⟨_, z1, _, z3, z4, z5⟩ := (f3 b hb).1
      exact ⟨z3, z1, z4, z5⟩
    have loop : codeAny (model X.prog X.w) X.A (.compLoop (.ListComp elt [⟨tg, iter, ifs, 0⟩] scope pos) 0 (.ref it) (.ref D) ce) (compEnds (model X.prog X.w) X.A X.xe use Qf (.ref D) ce) s4 := by
      have errs : ∀ {u : Value} {t : Shared}, (blkE X W s3 H3 scope ce fp).xe u t → notedBy (model X.prog X.w) X.A ce (fun e s' => compEnds (model X.prog X.w) X.A X.xe use Qf (.ref D) ce (.error e) s') u t := fun {u t} z => by
        obtain ⟨pl, τ, G, sc, J', c⟩ := z
        obtain ⟨I7, fC, m, hn⟩ := back J'
        have r := comp_fail stk frm tk I7 cF fC hn c
        cases use <;> exact r
      refine compLoop_any (fun n t => ∃ i G, L2.Inv (X.blk s3 H3 scope ce fp) [] (wipe σ (own.map (·.2))) G t ∧ tn i t.heap ∧ (∀ b ∈ fp, G b = none) ∧ V0 i n G) ?_ m0 ⟨0, H3, I4, st4, nfp, v0⟩
      rintro n t5 ⟨i, G5, I5, st5, n5, w5⟩
      rcases turn i n G5 w5 with ⟨stop, qq⟩ | ⟨go, Nx, hNx, step⟩
      · refine thnF (T.done (X.blk s3 H3 scope ce fp) rfl rfl rfl calm i [] t5 _ G5 (fun _ _ => False) I5 (stat I5 n5) st5 stop) fun r t6 hr => ?_
        obtain ⟨rfl, I6⟩ := hr
        obtain ⟨I7, fC, m, hn⟩ := back I6
        exact fin D ce t6 m G5 I7 qq hn fC
      · refine thnF (T.item (X.blk s3 H3 scope ce fp) rfl rfl rfl calm i [] t5 _ G5 (fun _ _ => False) I5 (stat I5 n5) st5 go) fun r t6 hr => ?_
        obtain ⟨u, rfl, h6⟩ := hr
        refine thnF h6 fun _ t7 ⟨x, G7, I7, r7, y7, st7, n7⟩ => ?_
        refine thnF (pg.run _ t7 _ G7 x u _ (I7.pinned (stat I7 n7) (T.obj _ _ st7)) r7 (step x G7 y7)) fun _ t8 ⟨σ8, G8, I8, hw8, q8⟩ => ?_
        refine thnF (pt.run _ t8 σ8 G8 _ I8 q8) fun b t9 ⟨G9, I9, q9⟩ => ?_
        have ends : ∀ {t' : Shared} {G' : Hp}, L2.Inv (X.blk s3 H3 scope ce fp) ([] ++ pinsAt fp t7.heap) σ8 G' t' → Nx G' → ∃ m, m < n ∧ ∃ i G, L2.Inv (X.blk s3 H3 scope ce fp) [] (wipe σ (own.map (·.2))) G t' ∧ tn i t'.heap ∧ (∀ b ∈ fp, G b = none) ∧ V0 i m G := fun {t' G'} J' nx => by
          obtain ⟨m', less, v'⟩ := hNx G' nx
          have held : ∀ b ∈ fp, ∀ o, t7.heap.get? b = some o → t'.heap.get? b = some o ∧ G' b = none := fun b hb o e => by
            obtain ⟨z1, z2, _⟩ := J'.pin (b, o) (List.mem_append_right _ (List.mem_append_right _ (mem_pinsAt hb e)))
            exact ⟨z1, z2⟩
          refine ⟨m', less, i + 1, G', (J'.unpinned (pins := [])).weak (by rw [← hw8, wipe_length]) (fun j v e => ?_), T.keep _ _ _ st7 fun b hb o e => (held b hb o e).1, fun b hb => ?_, v'⟩
          · rw [← hw8] at e
            exact (wipe_some e).1
          · obtain ⟨o, e, _⟩ := T.obj _ _ st7 b hb
            exact (held b hb o e).2
        cases b with
        | true =>
          simp only [if_true] at q9 ⊢
          refine wpAny_mono (pe.run _ t9 σ8 G9 _ (inv_xe I9) q9) (fun z t10 hz => ?_) fun u t z => errs z
          obtain ⟨yv, G10, I10, r10, acc, eD, szD, nx⟩ := hz
          exact app_ok (X := X.blk s3 H3 scope ce fp) (inv_xe (q := fun _ _ => False) I10) eD szD r10 fun t11 I11 => ends I11 nx
        | false =>
          simp only [Bool.false_eq_true, if_false] at q9 ⊢
          exact ends I9 q9
    exact codeAny_compStart_list loop (T.self X.A 0 _ _ _ st4 loop)
  rw [hs4] at goal
  rw [hce] at goal
  exact goal
/-- name = [..] on one line, the element may raise -/
theorem ps_setLcE {i : Nat} {y : Str} {py : Pos} {elt tg iter : Expr} {ifs : List Expr} {scope : Scope} {own : List (Str × Nat)} {pos spos : Pos} {wi : TI} {g : TG} {tt : TT} {te : TE} (calm : X.calm = true) (nd : X.N.Nodup) (stk : X.stack = X.env :: X.outer) (frm : X.env.frame = some X.env.locals) (tk : L2N.Takes X (fun cls d _ H => W cls d H))
    (hy : X.N[i]? = some y) (hyl : X.env.scope.names.lookup y = some .local) (hsw : swapsWith (.ListComp elt [⟨tg, iter, ifs, 0⟩] scope pos) (some (.Name y py)) spos.line X.env = pure true) (hi : PI X tg iter wi) (ok : BlkOk X.N X.env.scope scope own)
    (hg : ∀ (t : Shared) (G : Hp) (C : Addr) (cl : List (Str × Addr)) (fp : List Addr), PG (X.blk t G scope (compEnvC scope cl C X.env) fp) tg g)
    (ht : ∀ (t : Shared) (G : Hp) (C : Addr) (cl : List (Str × Addr)) (fp : List Addr), PTs (X.blk t G scope (compEnvC scope cl C X.env) fp) ifs tt)
    (he : ∀ (t : Shared) (G : Hp) (C : Addr) (cl : List (Str × Addr)) (fp : List Addr), PE (blkE X W t G scope (compEnvC scope cl C X.env) fp) elt te)
    (fold : ∀ x, foldedSetIterable iter X.env x = pure x := by intro _; rfl) :
    PS X (.Assign [.Name y py] (.ListComp elt [⟨tg, iter, ifs, 0⟩] scope pos) spos) (tAsg (tLc wi g tt te (own.map (·.2))) (gName i)) := by
  constructor
  intro pins s σ H D I h
  rw [exec_Assign_Name_used _ _ _ _ hsw]
  refine wpAny_bind (wpAny_standAt (wpAny_bind ?_))
  change wpAny _ X.A (do
    let _ ← comprehension (.ListComp elt [⟨tg, iter, ifs, 0⟩] scope pos) scope X.env (firstIterPos [⟨tg, iter, ifs, 0⟩] pos) (newList []) false (eval iter X.env) (some (assign (.Name y py) X.env))) _ _ s
  have h2 : tLc wi g tt te (own.map (·.2)) σ H (fun x G => gName i x σ G D.nx) := h
  refine wpAny_bind (thn (lcE_core (Qf := fun _ s' => SP X pins D .next s') calm nd stk frm tk I hi ok hg ht he fold h2 fun L ce s' m G I' q hn f => ?_) fun _ _ hq => wpAny_pure (wpAny_pure hq))
  obtain ⟨f0, f1, f2, f3, f4, f5⟩ := f
  show wpAny _ _ (assign (.Name y py) X.env (.ref L)) _ _ _
  refine wpAny_assign_Name (store_ok2 (v := V.ref L) I' nd hy (.inl hyl) rfl (fun s2 I2 hst => ?_) (.inr hyl))
  obtain ⟨a, sb, ha⟩ := hst
  have nCa : ce.locals ≠ a := by
    rcases ha with rfl | z
    · exact f1
    · exact fun e => f4 y a z e.symm
  exact ⟨m, hn.sameBut sb nCa, fun h3 sb3 => ⟨_, G, I2.turned (t' := s2.toks) (fun b o hb e => (sb3.2 b hb).trans e) f0 f1 f3 f4 f5, q⟩⟩
end
end Ba

set_option maxHeartbeats 400000
/-! o.m(..) inside a try: what it lets out, told by the slots. -/
namespace Ba
open PySem PySem.Spec PyProof.Rows L2
def tMetS (C : Addr) (m : Str) (sp : Sp) (E : L2.St → XK) (ta : TE) (t : TA) : TE := fun σ H Q => ta σ H fun x H1 => ∃ a dx fs, x = .ref a ∧ H1 a = some (.ins C dx fs) ∧ fs.lookup m = none ∧ t σ H1 fun vs H2 => sp (x :: vs) H2 Q (E σ)
section
variable {X : Cx} {k : Nat} {C : Addr} {ps : List Str} {sp : Sp} {E : L2.St → XK} {m : Str} {pos apos : Pos} {e o : Expr} {es : List Expr} {ta : TE} {t : TA}
theorem pe_metS {pl : Sem Bool} (he : PE X o ta) (c : Cls X.K C) (D : MetOk X.prog X.w X.K X.mg X.base C m k ps [] sp) (hr : Room k X.A) (hx : ∀ σ, PassesAt (L2N.CX X.prog X.w) X σ (E σ)) (ha : PA X (e :: es) t)
    (h1 : starEach (e :: es) X.env = (false, eval e X.env) :: starEach es X.env := by rfl) (h2 : (backTo pos (starEach es X.env)).any (·.1) = false := by rfl)
    (h3 : eval (.Call (.Attribute o m apos) (e :: es) [] pos) X.env = (do
      let r ← eval o X.env
      standAt apos.atName
      let (g, one) ← holding [r] (getMethod r m pl)
      callWith pos g one (backTo pos (starEach (e :: es) X.env)) (backToKw pos (keywordEach [] X.env))) := by rfl) :
    PE X (.Call (.Attribute o m apos) (e :: es) [] pos) (tMetS C m sp E ta t) := by
  obtain ⟨f, fd, ds, F, hm, hb, hd⟩ := D
  cases hd
  constructor
  intro pins s σ H Q I h
  refine PySem.W.methodCall_KW (pl := pl) (thn (he.run pins s σ H _ I h) fun u s1 z => ?_) h3
  obtain ⟨x, H1, I1, rx, a, dx, fs, rfl, ea, l, q⟩ := z
  cases (show u = Value.ref a from rx)
  refine getmeth_ok I1 ea c hm l (PySem.W.callWith_K (first := [.ref a]) (h₀ := X.base) I.ok.mod.kin hm.kp (thn (ha.run pos pins s1 σ H1 _ I1 q) fun us s2 z2 => ?_) h1 h2)
  obtain ⟨vs, H2, I2, r, q2⟩ := z2
  exact ⟨I2.kIn, run_fnS (us := .ref a :: us) (vs := .ref a :: vs) F hr hb (hx σ) I2 (.cons rfl r) q2⟩
end
end Ba

set_option maxHeartbeats 400000
/-! Lists walked while an exception is handled. -/
namespace Ba
open PySem PySem.Spec PyProof.Rows L2 L2H
section
variable {prog : Program} {w : World} {A : Around} {E : Value → Shared → Prop} {s : Shared}
theorem list_end_hot {it l x1 : Addr} {i : Nat} {items : Array Value} {Q : Option Value → Shared → Prop} (hot : HotX.HotAt A x1 s.heap) (hit : s.heap.IsListIter it l i) (hl : s.heap.IsList l items) (hx : items[i]? = none) (hne : x1 ≠ it)
    (hQ : ∀ h', Heap.ExtBut it s.heap h' → Q none { s with heap := h' }) : wpAny (model prog w) A (pyNext (.ref it)) Q E s := by
  obtain ⟨hh, o1, vs1, h1, d1, c1⟩ := hot
  obtain ⟨o, ho, hc, hd⟩ := id hit
  obtain ⟨ol, hol, _, nl, hdl⟩ := hl
  unfold pyNext
  refine wpAny_bind (wpAny_attempt (wpAny_callSpecial?_slot (name := Str.ofString "__next__") hit.typeIs slot_listiter_next (wpAny_call_entry slot_listiter_next hit.typeIs entry_listiter_next ?_ (args_listiter_next _))))
  change wpAny _ _ (field (.ref it) 0 >>= _) _ _ s
  refine wpAny_bind (wpAny_field ho hd (x := .ref l) rfl ?_)
  change wpAny _ _ (if (Value.ref l == Value.none) = true then _ else _) _ _ s
  rw [if_neg (show ¬ ((Value.ref l == Value.none) = true) from Bool.false_ne_true)]
  change wpAny _ _ (field (.ref it) 1 >>= _) _ _ s
  refine wpAny_bind (wpAny_field ho hd (x := .int i 0) rfl ?_)
  change wpAny _ _ (seqItems? (.ref l) >>= _) _ _ s
  refine wpAny_bind (wpAny_seqItems hol hdl ?_)
  simp only [Int.toNat_natCast, hx]
  refine wpAny_bind (wpAny_rule (wpAny_bind (wpAny_setField ho hd (by simp) ?_)))
  change wpAny _ _ (newExc (.type "StopIteration") [] >>= _) _ _ _
  refine wpAny_bind ?_
  simp only [newExc, newTuple]
  refine wpAny_bind (wpAny_newObj_type ?_ (by size_fits))
  refine wpAny_bind (m := firstArgMember _ _) (wpAny_of_eq (a := Value.none) (by first | rfl | (simp only [firstArgMember]; rfl)) ?_)
  refine wpAny_newObj_type ?_ (by size_fits)
  have h1' : (s.heap.update it (Obj.mapFields (·.setIfInBounds 0 Value.none))).get? x1 = some o1 := by rw [Heap.get?_update_other _ _ (Ne.symm hne)]; exact h1
  refine HotX.raiseNew_hot ⟨hh, o1, vs1, Heap.get?_push_of_some _ (Heap.get?_push_of_some _ h1'), d1, c1⟩ (Nat.ne_of_lt (Heap.lt_size (Heap.get?_push_of_some _ h1'))) (Heap.get?_push_size _ rfl) rfl (by first | (simp; done) | (simp; omega) | (simp only [Array.size_append]; simp; omega)) ?_
  refine wpAny_bind (wpAny_isInstance (T := "StopIteration") (b := true) ⟨_, Heap.get?_update_self _ (Heap.get?_push_size _ rfl) rfl, rfl⟩ isSubtype_stop ?_)
  refine wpAny_pure (hQ _ ?_)
  intro b o hb e
  have e1 : (s.heap.update it (Obj.mapFields (·.setIfInBounds 0 Value.none))).get? b = some o := by rw [Heap.get?_update_other _ _ (Ne.symm hb)]; exact e
  rw [Heap.get?_update_other _ _ (Nat.ne_of_gt (Heap.lt_size (Heap.get?_push_of_some _ e1)))]
  exact Heap.get?_push_of_some _ (Heap.get?_push_of_some _ e1)
end
theorem turn_listH {P : Program} {w : World} {K : PySem.W.Frag} {tg : Expr} (a it : Addr) : TurnH P w K tg (Itl K a) [it] it (fun i h => h.IsListIter it a i) where
  mem := List.mem_singleton.mpr rfl
  obj := by
    intro i h st b hb
    cases List.mem_singleton.mp hb
    obtain ⟨o, e, c, d⟩ := st
    exact ⟨o, e, fun v z => by rw [d] at z; cases z⟩
  keep := fun i h h' st k => st.at fun o e => k it (List.mem_singleton.mpr rfl) o e
  item := by
    intro X hP hw hK hc i pins s σ H E I hf st hg
    subst hP hw hK
    obtain ⟨xs, x, hq, hx⟩ := hg
    obtain ⟨its, rv, p, hz⟩ := I.list hq
    obtain ⟨u, hu, ru⟩ := rv.get hx
    obtain ⟨f0, f1, f2, f3, f4, f5⟩ := hf it (List.mem_singleton.mpr rfl)
    refine wpAny_pyNext_list_item st p.isList (x := u) (by simpa using hu) fun h' st' sb => ?_
    obtain ⟨o, e, c, d⟩ := id st'
    refine ⟨u, rfl, go_of (s := { s with heap := h' }) e c d (by decide) ⟨x, H, I.turned (t' := s.toks) (fun b o hb e => (sb.2 b hb).trans e) f0 f1 f3 f4 f5, ru, ⟨rfl, fun ys hy => ?_⟩, st', fun b hb => (hf b hb).1⟩⟩
    have I1 : L2.Inv X pins σ H { s with heap := h' } := I.turned (t' := s.toks) (fun b o hb e => (sb.2 b hb).trans e) f0 f1 f3 f4 f5
    rw [I.list_inj hy hq]
    exact hx
  done := by
    intro X hP hw hK hc i pins s σ H E I hf st hg
    subst hP hw hK
    obtain ⟨xs, hq, hx⟩ := hg
    obtain ⟨its, rv, p, hz⟩ := I.list hq
    obtain ⟨f0, f1, f2, f3, f4, f5⟩ := hf it (List.mem_singleton.mpr rfl)
    have hl := rv.length
    obtain ⟨q, ⟨hh, v1, e1, c1⟩, hp⟩ := hc
    have hpin := I.pin q (List.mem_append_left _ hp)
    exact list_end_hot ⟨hh, q.2, v1, hpin.1, e1, c1⟩ st p.isList (by simp; omega) (f5 q (List.mem_append_left _ hp)) fun h' eb => ⟨rfl, I.turned (t' := s.toks) (fun b o hb e => eb b o hb e) f0 f1 f3 f4 f5⟩
  self := fun _ _ _ _ _ st h => wpAny_pyIter_listiter st h
section
variable {X : Cx} {tg : Expr}
theorem pi_listH {l : Expr} {tl : TE} (hl : PE X l tl) : PIH X tg l (iList X.K tl) := by
  constructor
  intro pins s σ H R I h
  refine thn (hl.run pins s σ H _ I h) fun v s1 z => ?_
  obtain ⟨x, H1, I1, r1, a, rfl, ⟨xs, hq⟩, q⟩ := z
  cases r1
  obtain ⟨its, rv, p, hz⟩ := I1.list hq
  refine wpAny_pyIter_list p.isList ⟨s1.heap.objs.size, [s1.heap.objs.size], _, _, H1, rfl, I1.kept (t' := s1.toks) fun b o e => Heap.get?_push_of_some _ e, turn_listH a _, ⟨_, Heap.get?_push_size _ rfl, rfl, rfl⟩, fun b hb => ?_, q⟩
  cases List.mem_singleton.mp hb
  exact I1.fpOk (Nat.le_refl _) (I1.hok.fresh (Nat.le_refl _))
end
/-- the context of a block while an exception is handled -/
abbrev blkH (X : Cx) (s : Shared) (H : Hp) (scope : Scope) (ce : Env) (fp : List Addr) : Cx := { X.blk s H scope ce fp with pn := X.pn }
section
variable {X : Cx} {pins : List (Addr × Obj)} {σ : L2.St} {H : Hp} {s : Shared}
theorem inv_pn {pl : List (Addr × Obj)} (I : L2.Inv X pins σ H s) (h : ∀ p ∈ pl ++ pins, s.heap.get? p.1 = some p.2 ∧ H p.1 = none ∧ p.1 ≠ X.env.locals ∧ p.1 ∉ X.fs ∧ ∀ v, p.2.data ≠ .cell v) : L2.Inv { X with pn := pl } pins σ H s :=
  ⟨⟨I.ok.mod, I.ok.kind, I.ok.glob, I.ok.blt, I.ok.above, I.ok.inj, I.ok.has, I.ok.cab, I.ok.hd, I.ok.frames, I.ok.stk, I.ok.exf, I.ok.bs, I.ok.bsz, I.ok.noex, I.ok.exfs, I.ok.funs, I.ok.frf⟩, I.os, I.bare, I.base, I.loc, I.cell, I.free, I.freeC, h, I.hok, I.len⟩
theorem lcH_core {Q : VK} {elt tg iter : Expr} {ifs : List Expr} {scope : Scope} {own : List (Str × Nat)} {pos pos' : Pos} {wi : TI} {g : TG} {tt : TT} {te : TE} {use : Option (Value → Sem Unit)} {Qf : Value → Shared → Prop}
    (hot : HotC X) (nd : X.N.Nodup) (stk : X.stack = X.env :: X.outer) (frm : X.env.frame = some X.env.locals) (I : L2.Inv X pins σ H s) (hi : PIH X tg iter wi) (ok : BlkOk X.N X.env.scope scope own)
    (hg : ∀ (t : Shared) (G : Hp) (C : Addr) (cl : List (Str × Addr)) (fp : List Addr), PG (blkH X t G scope (compEnvC scope cl C X.env) fp) tg g)
    (ht : ∀ (t : Shared) (G : Hp) (C : Addr) (cl : List (Str × Addr)) (fp : List Addr), PTs (blkH X t G scope (compEnvC scope cl C X.env) fp) ifs tt)
    (he : ∀ (t : Shared) (G : Hp) (C : Addr) (cl : List (Str × Addr)) (fp : List Addr), PE (blkH X t G scope (compEnvC scope cl C X.env) fp) elt te)
    (fold : ∀ x, foldedSetIterable iter X.env x = pure x) (h : tLc wi g tt te (own.map (·.2)) σ H Q)
    (fin : ∀ D ce s' m G, L2.Inv X pins σ G s' → Q (.ref D) G → s'.heap.Ns ce.locals m → FpOk X pins G ce.locals → compEnds (model X.prog X.w) X.A X.xe use Qf (.ref D) ce (.ok .next) s') :
    wpAny (model X.prog X.w) X.A (comprehension (.ListComp elt [⟨tg, iter, ifs, 0⟩] scope pos) scope X.env pos' (newList []) false (eval iter X.env) use) Qf X.xe s := by
  have capt : ∀ y ∈ scope.names, y.2 = .free → ∃ c, X.env.cells.lookup y.1 = some c := fun y hy e => I.ok.has _ ((ok.free y hy e).imp id id)
  refine comprehension_at (use := use) rfl fold (closure_ok capt) ok.kind (fun y hy e => by rw [ok.uniq y hy, e]) ?_
  refine thn (hi.run pins s σ H _ I h) fun xv s1 hx => thn hx fun itv s2 ⟨it, fp, tn, J, H2, e, I2, T, st2, f2, q⟩ => ?_
  subst e
  refine wpAny_newObj_type (newEnv_comp ?_) (by show 0 ≤ sizeLine; decide)
  obtain ⟨D, hD⟩ : ∃ D, D = s2.heap.objs.size := ⟨_, rfl⟩
  have freshD : H2 D = none := I2.hok.fresh (Nat.le_of_eq hD.symm)
  obtain ⟨V0, ⟨m0, v0⟩, turn⟩ := q D freshD
  rw [← hD]
  obtain ⟨s3, hs3⟩ : ∃ s3 : Shared, s3 = { s2 with heap := s2.heap.push { cls := .type "list", data := .seq ([] : List Value).toArray } } := ⟨_, rfl⟩
  have h3 : s3.heap = s2.heap.push { cls := .type "list", data := .seq ([] : List Value).toArray } := by rw [hs3]
  obtain ⟨H3, hH3⟩ : ∃ H3 : Hp, H3 = upd H2 D (.lst []) := ⟨_, rfl⟩
  rw [← hH3] at v0
  have I3 : L2.Inv X pins σ H3 s3 := by
    rw [hs3, hH3]
    exact I2.laid (t' := s2.toks) (fun b o e => Heap.get?_push_of_some _ e) (Nat.le_of_eq hD.symm) ⟨Nat.zero_le _, [], 0, .nil, by rw [hD]; exact Heap.get?_push_size _ rfl⟩
  have f3 : ∀ b ∈ fp, FpOk X pins H3 b ∧ b < s3.heap.objs.size := fun b hb => by
    obtain ⟨o, eo, _⟩ := T.obj _ _ st2 b hb
    have lt := Heap.lt_size eo
    have nD : b ≠ D := by rw [hD]; exact Nat.ne_of_lt lt
    refine ⟨⟨by rw [hH3, upd_ne nD]; exact (f2 b hb).1, (f2 b hb).2⟩, ?_⟩
    rw [h3, Heap.size_push]
    exact Nat.lt_succ_of_lt lt
  have I4' := block_start I3 ok nd f3
  rw [← hs3]
  obtain ⟨ce, hce⟩ : ∃ ce, ce = compEnvC scope (cellsFrom (s3.heap.objs.size + 1) scope.names (cloFrom X.env.cells scope.names [])) s3.heap.objs.size X.env := ⟨_, rfl⟩
  have pg : PG (blkH X s3 H3 scope ce fp) tg g := by rw [hce]; exact hg _ _ _ _ _
  have pt : PTs (blkH X s3 H3 scope ce fp) ifs tt := by rw [hce]; exact ht _ _ _ _ _
  have pe : PE (blkH X s3 H3 scope ce fp) elt te := by rw [hce]; exact he _ _ _ _ _
  have cL : ce.locals = s3.heap.objs.size := by rw [hce]; rfl
  rw [← hce] at I4'
  obtain ⟨s4, hs4⟩ : ∃ s4 : Shared, s4 = { s3 with heap := pushCells (s3.heap.push { cls := .type "dict", data := .dict #[] }) scope.names } := ⟨_, rfl⟩
  rw [← hs4] at I4'
  have I4 : L2.Inv (blkH X s3 H3 scope ce fp) [] (wipe σ (own.map (·.2))) H3 s4 := inv_pn I4' fun p hp => by
    have hp : p ∈ X.pn := by simpa using hp
    obtain ⟨z1, z2, z3, z4, z5⟩ := I3.pin p (List.mem_append_left _ hp)
    refine ⟨by rw [hs4]; exact pushCells_keeps _ _ _ _ (Heap.get?_push_of_some _ z1), z2, by show p.1 ≠ ce.locals; rw [cL]; exact Nat.ne_of_lt (Heap.lt_size z1), ?_, z5⟩
    show p.1 ∉ frs X.stack
    rw [stk]
    unfold frs
    rw [List.filterMap_cons, frm]
    exact fun z => (List.mem_cons.mp z).elim z3 z4
  have goal : codeAny (model X.prog X.w) X.A (.compStart (.ListComp elt [⟨tg, iter, ifs, 0⟩] scope pos) 0 (.ref it) (.ref D) ce) (compEnds (model X.prog X.w) X.A X.xe use Qf (.ref D) ce) s4 := by
    have st3 : tn 0 s3.heap := T.keep _ _ _ st2 fun b _ o e => by rw [h3]; exact Heap.get?_push_of_some _ e
    have st4 : tn 0 s4.heap := T.keep _ _ _ st3 fun b _ o e => by rw [hs4]; exact pushCells_keeps _ _ _ _ (Heap.get?_push_of_some _ e)
    have nfp : ∀ b ∈ fp, H3 b = none := fun b hb => (f3 b hb).1.1
    have hotB : HotC (blkH X s3 H3 scope ce fp) := hot
    have stat : ∀ {τ : L2.St} {G : Hp} {t : Shared}, L2.Inv (blkH X s3 H3 scope ce fp) [] τ G t → (∀ b ∈ fp, G b = none) → ∀ b ∈ fp, FpOk (blkH X s3 H3 scope ce fp) [] G b := fun {τ G t} J' hn b hb =>
      ⟨hn b hb, (J'.ok.exf b hb).1, J'.ok.exfs b hb, .inl hb, fun x c e => (J'.ok.exf b hb).2 x c e, fun p hp => (f3 b hb).1.2.2.2.2.2 p (List.mem_append_left _ (by simpa using hp))⟩
    have back : ∀ {pl : List (Addr × Obj)} {τ : L2.St} {G : Hp} {t : Shared}, L2.Inv (blkH X s3 H3 scope ce fp) pl τ G t → L2.Inv X pins σ G t ∧ FpOk X pins G ce.locals ∧ ∃ m, t.heap.Ns ce.locals m := fun {pl τ G t} J' => by
      have noC : G ce.locals = none := J'.free
      obtain ⟨m, hn, _⟩ := J'.loc
      refine ⟨I3.call' (ch := fp) J'.os J'.base J'.hok J'.bare fun b hb => ?_, I3.fpOk (by rw [cL]; exact Nat.le_refl _) noC, m, hn⟩
      obtain ⟨_, z1, _, z3, z4, z5⟩ := (f3 b hb).1
      exact ⟨z3, z1, z4, z5⟩
    have loop : codeAny (model X.prog X.w) X.A (.compLoop (.ListComp elt [⟨tg, iter, ifs, 0⟩] scope pos) 0 (.ref it) (.ref D) ce) (compEnds (model X.prog X.w) X.A X.xe use Qf (.ref D) ce) s4 := by
      refine compLoop_any (fun n t => ∃ i G, L2.Inv (blkH X s3 H3 scope ce fp) [] (wipe σ (own.map (·.2))) G t ∧ tn i t.heap ∧ (∀ b ∈ fp, G b = none) ∧ V0 i n G) ?_ m0 ⟨0, H3, I4, st4, nfp, v0⟩
      rintro n t5 ⟨i, G5, I5, st5, n5, w5⟩
      rcases turn i n G5 w5 with ⟨stop, qq⟩ | ⟨go, Nx, hNx, step⟩
      · refine thnF (T.done (blkH X s3 H3 scope ce fp) rfl rfl rfl hotB i [] t5 _ G5 (fun _ _ => False) I5 (stat I5 n5) st5 stop) fun r t6 hr => ?_
        obtain ⟨rfl, I6⟩ := hr
        obtain ⟨I7, fC, m, hn⟩ := back I6
        exact fin D ce t6 m G5 I7 qq hn fC
      · refine thnF (T.item (blkH X s3 H3 scope ce fp) rfl rfl rfl hotB i [] t5 _ G5 (fun _ _ => False) I5 (stat I5 n5) st5 go) fun r t6 hr => ?_
        obtain ⟨u, rfl, h6⟩ := hr
        refine thnF h6 fun _ t7 ⟨x, G7, I7, r7, y7, st7, n7⟩ => ?_
        refine thnF (pg.run _ t7 _ G7 x u _ (I7.pinned (stat I7 n7) (T.obj _ _ st7)) r7 (step x G7 y7)) fun _ t8 ⟨σ8, G8, I8, hw8, q8⟩ => ?_
        refine thnF (pt.run _ t8 σ8 G8 _ I8 q8) fun b t9 ⟨G9, I9, q9⟩ => ?_
        have ends : ∀ {t' : Shared} {G' : Hp}, L2.Inv (blkH X s3 H3 scope ce fp) ([] ++ pinsAt fp t7.heap) σ8 G' t' → Nx G' → ∃ m, m < n ∧ ∃ i G, L2.Inv (blkH X s3 H3 scope ce fp) [] (wipe σ (own.map (·.2))) G t' ∧ tn i t'.heap ∧ (∀ b ∈ fp, G b = none) ∧ V0 i m G := fun {t' G'} J' nx => by
          obtain ⟨m', less, v'⟩ := hNx G' nx
          have held : ∀ b ∈ fp, ∀ o, t7.heap.get? b = some o → t'.heap.get? b = some o ∧ G' b = none := fun b hb o e => by
            obtain ⟨z1, z2, _⟩ := J'.pin (b, o) (List.mem_append_right _ (List.mem_append_right _ (mem_pinsAt hb e)))
            exact ⟨z1, z2⟩
          refine ⟨m', less, i + 1, G', (J'.unpinned (pins := [])).weak (by rw [← hw8, wipe_length]) (fun j v e => ?_), T.keep _ _ _ st7 fun b hb o e => (held b hb o e).1, fun b hb => ?_, v'⟩
          · rw [← hw8] at e
            exact (wipe_some e).1
          · obtain ⟨o, e, _⟩ := T.obj _ _ st7 b hb
            exact (held b hb o e).2
        cases b with
        | true =>
          simp only [if_true] at q9 ⊢
          refine thnF (pe.run _ t9 σ8 G9 _ I9 q9) fun z t10 hz => ?_
          obtain ⟨yv, G10, I10, r10, acc, eD, szD, nx⟩ := hz
          exact app_ok (X := blkH X s3 H3 scope ce fp) I10 eD szD r10 fun t11 I11 => ends I11 nx
        | false =>
          simp only [Bool.false_eq_true, if_false] at q9 ⊢
          exact ends I9 q9
    exact codeAny_compStart_list loop (T.self X.A 0 _ _ _ st4 loop)
  rw [hs4] at goal
  rw [hce] at goal
  exact goal
/-- name = [..] on one line, while an exception is handled -/
theorem ps_setLcH {i : Nat} {y : Str} {py : Pos} {elt tg iter : Expr} {ifs : List Expr} {scope : Scope} {own : List (Str × Nat)} {pos spos : Pos} {wi : TI} {g : TG} {tt : TT} {te : TE} (hot : HotC X) (nd : X.N.Nodup) (stk : X.stack = X.env :: X.outer) (frm : X.env.frame = some X.env.locals)
    (hy : X.N[i]? = some y) (hyl : X.env.scope.names.lookup y = some .local) (hsw : swapsWith (.ListComp elt [⟨tg, iter, ifs, 0⟩] scope pos) (some (.Name y py)) spos.line X.env = pure true) (hi : PIH X tg iter wi) (ok : BlkOk X.N X.env.scope scope own)
    (hg : ∀ (t : Shared) (G : Hp) (C : Addr) (cl : List (Str × Addr)) (fp : List Addr), PG (blkH X t G scope (compEnvC scope cl C X.env) fp) tg g)
    (ht : ∀ (t : Shared) (G : Hp) (C : Addr) (cl : List (Str × Addr)) (fp : List Addr), PTs (blkH X t G scope (compEnvC scope cl C X.env) fp) ifs tt)
    (he : ∀ (t : Shared) (G : Hp) (C : Addr) (cl : List (Str × Addr)) (fp : List Addr), PE (blkH X t G scope (compEnvC scope cl C X.env) fp) elt te)
    (fold : ∀ x, foldedSetIterable iter X.env x = pure x := by intro _; rfl) :
    PS X (.Assign [.Name y py] (.ListComp elt [⟨tg, iter, ifs, 0⟩] scope pos) spos) (tAsg (tLc wi g tt te (own.map (·.2))) (gName i)) := by
  constructor
  intro pins s σ H D I h
  rw [exec_Assign_Name_used _ _ _ _ hsw]
  refine wpAny_bind (wpAny_standAt (wpAny_bind ?_))
  change wpAny _ X.A (do
    let _ ← comprehension (.ListComp elt [⟨tg, iter, ifs, 0⟩] scope pos) scope X.env (firstIterPos [⟨tg, iter, ifs, 0⟩] pos) (newList []) false (eval iter X.env) (some (assign (.Name y py) X.env))) _ _ s
  have h2 : tLc wi g tt te (own.map (·.2)) σ H (fun x G => gName i x σ G D.nx) := h
  refine wpAny_bind (thn (lcH_core (Qf := fun _ s' => SP X pins D .next s') hot nd stk frm I hi ok hg ht he fold h2 fun L ce s' m G I' q hn f => ?_) fun _ _ hq => wpAny_pure (wpAny_pure hq))
  obtain ⟨f0, f1, f2, f3, f4, f5⟩ := f
  show wpAny _ _ (assign (.Name y py) X.env (.ref L)) _ _ _
  refine wpAny_assign_Name (store_ok2 (v := V.ref L) I' nd hy (.inl hyl) rfl (fun s2 I2 hst => ?_) (.inr hyl))
  obtain ⟨a, sb, ha⟩ := hst
  have nCa : ce.locals ≠ a := by
    rcases ha with rfl | z
    · exact f1
    · exact fun e => f4 y a z e.symm
  exact ⟨m, hn.sameBut sb nCa, fun h3 sb3 => ⟨_, G, I2.turned (t' := s2.toks) (fun b o hb e => (sb3.2 b hb).trans e) f0 f1 f3 f4 f5, q⟩⟩
end
end Ba

set_option maxHeartbeats 400000
/-! A def that is called with the exception that is handled. -/
namespace Ba
open PySem PySem.Spec PyProof.Rows L2 L2H
/-- what is known of the handled exception's object -/
def ZH (cls : Value) (d : Option Addr) (o : Obj) : Prop := Zc cls d o ∧ ∃ vs, o.data = .fields vs
structure FnP (P : Program) (w : World) (K : PySem.W.Frag) (mg : Str → Option Value) (base : Heap) (CX : CXT) (k : Nat) (f : Addr) (fd : FuncData) (ps : List Str) (sp : Addr → Value → Option Addr → Sp) : Prop where
  len : ∀ a cls d vs H Q E, sp a cls d vs H Q E → vs.length = ps.length
  run : ∀ (A : Around) (outer : List Env) (s : Shared) (H : Hp) (args : Args) (us : List Value) (vs : List V) (Q : VK) (E : XK) (p : Addr × Obj) (cls : Value) (d : Option Addr), RoomH k A → Hot1 A p → ZH cls d p.2 → PinOk outer H s p → Env0 P w K mg base A outer s H → BindsTo s fd args (ps.zip us) → Vals vs us → sp p.1 cls d vs H Q E →
    codeAny (model P w) A (.call (.ref f) args) (CR CX outer P w H s Q E) s
section
variable {P : Program} {w : World} {K : PySem.W.Frag} {mg : Str → Option Value} {base : Heap} {x qual : Str} {st : Stmt} {f : Addr} {fd : FuncData} {ps N : List Str} {k : Nat} {sp : Addr → Value → Option Addr → Sp} {CX : CXT}
theorem okP (F : FunS K x qual st [] [] f fd) (S : FnScope N ps (defScope st)) (len : ∀ a cls d vs H Q E, sp a cls d vs H Q E → vs.length = ps.length)
    (hbody : ∀ (cdv : Value) (A : Around) (outer : List Env) (s : Shared) (H : Hp) (vs : List V) (Q : VK) (E : XK) (p : Addr × Obj) (cls : Value) (d : Option Addr), Hot1 (A.deeper (envOfC qual (defScope st) s.heap.objs.size f cdv)) p → ZH cls d p.2 → RoomH k (A.deeper (envOfC qual (defScope st) s.heap.objs.size f cdv)) → sp p.1 cls d vs H Q E →
      ∃ t, PSs (cxH CX P w K mg base N qual (defScope st) f cdv A outer s H E p) (defBody st) t ∧ t { nx := fun _ H' => Q .non H', rt := Q } (L2.start N vs) H) : FnP P w K mg base CX (k + 1) f fd ps sp := by
  obtain ⟨oc, od, dV, kV, doc, pm, an, cdv, ct, osl, rfl, lk, hcd, _, _⟩ := F.ex
  refine ⟨len, fun A outer s H args us vs Q E p cls d hr hot hz pin e0 hb r hsp => ?_⟩
  have hl := len _ _ _ _ _ _ _ hsp
  have up : ∀ (b : Addr) (o : Obj), base.get? b = some o → s.heap.get? b = some o := fun b o e => (e0.bs b o e).1
  have inK : K.In s.heap := e0.mod.kin.keeps up
  have noL : s.heap.NoLimit := e0.mod.nolimit.keeps up
  refine codeAny_call_function hr.depth (inK _ _ lk) rfl S.co S.gen rfl (PySem.W.codeRec_of inK hcd) (hb _ _ _ _ ?_)
  refine wpAny_newFunctionEnv_cells S.kind (fun y hy => ?_) fun env ee s1 z => ?_
  · obtain ⟨n, v⟩ := y
    cases S.par n (List.of_mem_zip hy).1 with
    | inl q => exact Or.inl q
    | inr q => exact Or.inr ⟨q, PySem.W.cellsFrom_some _ _ _ (Or.inl q)⟩
  · subst ee
    have hot' : Hot1 (A.deeper (envOfC qual (defScope st) s.heap.objs.size f cdv)) p := by
      first | exact hot | exact ⟨by have := hot.1; simpa [Around.deeper] using this, hot.2⟩
    obtain ⟨t, ht, hq⟩ := hbody cdv A outer s H vs Q E p cls d hot' hz (hr.deeper _) hsp
    refine ⟨noL.keeps z.toInCall.keep, codeAny_func (wpAny_mono (ht.run [] s1 (L2.start N vs) H _ (inv_startH S pin e0 hl r z) hq) (fun fl s' hs => ?_) fun _ _ hs => hs)⟩
    cases fl with
    | brk => obtain ⟨_, _, _, q⟩ := hs; exact False.elim q
    | cont => obtain ⟨_, _, _, q⟩ := hs; exact False.elim q
    | next =>
      obtain ⟨σ', H', J, q⟩ := hs
      exact ⟨.non, H', J.os, J.bare, J.base, J.hok, rfl, q⟩
    | ret u =>
      obtain ⟨v, σ', H', J, rv, q⟩ := hs
      exact ⟨v, H', J.os, J.bare, J.base, J.hok, rv, q⟩
end
section
variable {X : Cx} {CX : CXT} {k : Nat} {f : Addr} {fd : FuncData} {ps : List Str} {sp : Addr → Value → Option Addr → Sp} {E : XK} {x : Str} {np pos : Pos} {e : Expr} {es : List Expr} {t : TA}
def tCallP (a : Addr) (cls : Value) (d : Option Addr) (sp : Addr → Value → Option Addr → Sp) (E : XK) (t : TA) : TE := fun σ H Q => t σ H fun vs H1 => sp a cls d vs H1 Q E
theorem pe_callP {p : Addr × Obj} {cls : Value} {d : Option Addr} (F : FnP X.prog X.w X.K X.mg X.base CX k f fd ps sp) (hr : RoomH k X.A) (hot : Hot1 X.A p) (hp : p ∈ X.pn) (hz : ZH cls d p.2) (hg : Gl X x) (hm : X.mg x = some (.ref f)) (hk : PySem.W.keepIn X.K (.ref f) = true) (hb : Binds X.K fd ps []) (hx : Passes CX X E)
    (ha : PA X (e :: es) t) (hdb : (x == ("__debug__" : Str)) = false := by decide) (h1 : starEach (e :: es) X.env = (false, eval e X.env) :: starEach es X.env := by rfl) (h2 : (backTo pos (starEach es X.env)).any (·.1) = false := by rfl) :
    PE X (.Call (.Name x np) (e :: es) [] pos) (tCallP p.1 cls d sp E t) := by
  constructor
  intro pins s σ H Q I h
  refine wpAny_Call_Name_kw (ld_glob I hg hm ?_ hdb)
  refine PySem.W.callWith_K (h₀ := X.base) I.ok.mod.kin hk (thn (ha.run pos pins s σ H _ I h) fun us s1 z => ?_) h1 h2
  obtain ⟨vs, H1, I1, r, q⟩ := z
  refine ⟨I1.kIn, ?_⟩
  have hl : us.length = ps.length := by rw [← r.length]; exact F.len _ _ _ _ _ _ _ q
  have b := hb s1 us I1.kIn (by rw [List.append_nil]; exact hl)
  rw [List.append_nil] at b
  obtain ⟨z1, z2, z3, z4, z5⟩ := I1.pin p (List.mem_append_left _ hp)
  have hpin : PinOk X.stack H1 s1 p := ⟨z1, z2, fun hm => (List.mem_cons.mp (I1.stkSub p.1 hm)).elim z3 z4, z5⟩
  refine wpAny_call (codeAny_mono (F.run X.A X.stack s1 H1 ⟨us, []⟩ us vs Q E p cls d hr hot hz hpin I1.env0 b r q) fun r' s' hq => ?_)
  cases r' with
  | error e => exact hx pins σ H1 s1 e s' I1 hq
  | ok fl =>
    cases fl with
    | ret u => exact I1.after hq
    | next => exact False.elim hq
    | brk => exact False.elim hq
    | cont => exact False.elim hq
/-- isinstance(e, C), e the handled exception without a dict -/
theorem call_isP {p : Addr × Obj} {D : Addr} (C : ExcC X.K D) (hp : p ∈ X.pn) (hz : ZH (.ref D) none p.2) : CallR X (.builtin "isinstance") (rIsE X.K D p.1) := by
  intro pins s σ H xs us Q I r h
  obtain ⟨c, cv, b, rfl, hcv, e, q⟩ := h
  cases r with
  | cons rx rr =>
    cases rr with
    | cons rt rr =>
      cases rr
      cases rx
      cases hcv _ rt
      have hget := (I.pin p (List.mem_append_left _ hp)).1
      obtain ⟨⟨h1, h2⟩, vs, hv⟩ := hz
      have J : PySem.W.InstAt s.heap p.1 p.2 D none := by
        obtain ⟨a, oc, od, oda, osl⟩ := p
        dsimp only at h1 h2 hv
        subst h1 h2 hv
        exact ⟨hget, rfl, rfl, trivial⟩
      exact PySem.W.kia_one (PySem.W.handS_kitx_exc C.hg C.hk C.hs C.hd C.ha C.hn C.ht C.hm) I.kIn J e (fun z => nomatch z) fun tk => ⟨.bl b, H, I.kept (t' := tk) fun _ _ z => z, rfl, q⟩
end
end Ba

set_option maxHeartbeats 400000
/-! (a, b) = a tuple, while an exception is handled. -/
namespace Ba
open PySem PySem.Spec PyProof.Rows L2 L2H
section
variable {prog : Program} {w : World} {A : Around} {E : Value → Shared → Prop} {s : Shared}
theorem tuple_end_hot {it t x1 : Addr} {i : Nat} {items : Array Value} {Q : Option Value → Shared → Prop} (hot : HotX.HotAt A x1 s.heap) (hit : s.heap.IsTupleIter it t i) (ht : IsTup s.heap t items) (hx : items[i]? = none) (hne : x1 ≠ it)
    (hQ : ∀ h', Heap.ExtBut it s.heap h' → Q none { s with heap := h' }) : wpAny (model prog w) A (pyNext (.ref it)) Q E s := by
  obtain ⟨hh, o1, vs1, h1, d1, c1⟩ := hot
  obtain ⟨o, ho, hc, hd⟩ := id hit
  obtain ⟨ol, hol, _, nl, hdl⟩ := ht
  unfold pyNext
  refine wpAny_bind (wpAny_attempt (wpAny_callSpecial?_slot (name := Str.ofString "__next__") hit.typeIs F.slot_tuple_iterator_next (wpAny_call_entry F.slot_tuple_iterator_next hit.typeIs F.entry_tuple_iterator_next ?_ (F.args_tuple_iterator_next_1 _))))
  change wpAny _ _ (field (.ref it) 0 >>= _) _ _ s
  refine wpAny_bind (wpAny_field ho hd (x := .ref t) rfl ?_)
  change wpAny _ _ (if (Value.ref t == Value.none) = true then _ else _) _ _ s
  rw [if_neg (show ¬ ((Value.ref t == Value.none) = true) from Bool.false_ne_true)]
  change wpAny _ _ (field (.ref it) 1 >>= _) _ _ s
  refine wpAny_bind (wpAny_field ho hd (x := .int i 0) rfl ?_)
  change wpAny _ _ (seqItems? (.ref t) >>= _) _ _ s
  refine wpAny_bind (wpAny_seqItems hol hdl ?_)
  simp only [Int.toNat_natCast, hx]
  refine wpAny_bind (wpAny_rule (wpAny_bind (wpAny_setField ho hd (by simp) ?_)))
  change wpAny _ _ (newExc (.type "StopIteration") [] >>= _) _ _ _
  refine wpAny_bind ?_
  simp only [newExc, newTuple]
  refine wpAny_bind (wpAny_newObj_type ?_ (by size_fits))
  refine wpAny_bind (m := firstArgMember _ _) (wpAny_of_eq (a := Value.none) (by first | rfl | (simp only [firstArgMember]; rfl)) ?_)
  refine wpAny_newObj_type ?_ (by size_fits)
  have h1' : (s.heap.update it (Obj.mapFields (·.setIfInBounds 0 Value.none))).get? x1 = some o1 := by rw [Heap.get?_update_other _ _ (Ne.symm hne)]; exact h1
  refine HotX.raiseNew_hot ⟨hh, o1, vs1, Heap.get?_push_of_some _ (Heap.get?_push_of_some _ h1'), d1, c1⟩ (Nat.ne_of_lt (Heap.lt_size (Heap.get?_push_of_some _ h1'))) (Heap.get?_push_size _ rfl) rfl (by first | (simp; done) | (simp; omega) | (simp only [Array.size_append]; simp; omega)) ?_
  refine wpAny_bind (wpAny_isInstance (T := "StopIteration") (b := true) ⟨_, Heap.get?_update_self _ (Heap.get?_push_size _ rfl) rfl, rfl⟩ isSubtype_stop ?_)
  refine wpAny_pure (hQ _ ?_)
  intro b o hb e
  have e1 : (s.heap.update it (Obj.mapFields (·.setIfInBounds 0 Value.none))).get? b = some o := by rw [Heap.get?_update_other _ _ (Ne.symm hb)]; exact e
  rw [Heap.get?_update_other _ _ (Nat.ne_of_gt (Heap.lt_size (Heap.get?_push_of_some _ e1)))]
  exact Heap.get?_push_of_some _ (Heap.get?_push_of_some _ e1)
theorem unpack_hot {t x1 : Addr} {items : Array Value} {targets : List (Bool × (Value → Sem Unit))} {Q : Unit → Shared → Prop} (hot : HotX.HotAt A x1 s.heap) (ht : IsTup s.heap t items) (hn : targets.length = items.size) (hstar : targets.findIdx? (·.1) = none)
    (h : ∀ h', Heap.ExtBut s.heap.objs.size s.heap h' → wpAny (model prog w) A (assignInOrder (targets.map (·.2)) items.toList) Q E { s with heap := h' }) :
    wpAny (model prog w) A (unpack (.ref t) targets) Q E s := by
  unfold unpack
  rw [hn, hstar]
  refine wpAny_bind (wpAny_holding ?_)
  have lt : t ≠ s.heap.objs.size := by obtain ⟨o, ho, _⟩ := ht; exact Nat.ne_of_lt (Heap.lt_size ho)
  obtain ⟨hh, o1, vs1, h1, d1, c1⟩ := hot
  have ne1 : x1 ≠ s.heap.objs.size := Nat.ne_of_lt (Heap.lt_size h1)
  unfold unpackItems
  refine wpAny_bind ?_
  unfold notIterableAtAll
  refine wpAny_bind (wpAny_specialOf ht.typeIs F.slot_tuple_iter.lookup ?_)
  refine wpAny_pure ?_
  simp only [Bool.false_eq_true, if_false]
  refine wpAny_bind (wpAny_holding (iter_tuple ht ?_))
  refine wpAny_bind (wpAny_holding (draw_tuple lt items.size 0 _ _ ⟨_, Heap.get?_push_size _ rfl, rfl, rfl⟩ (ht.push _) (by omega) fun h2 hit2 hs2 => ?_))
  have all : List.take items.size (List.drop 0 items.toList) = items.toList := by
    rw [List.drop_zero]; exact List.take_of_length_le (by simp)
  rw [all, if_neg (by simp)]
  have ht2 : IsTup h2 t items := (ht.push _).extBut hs2.extBut lt
  have h12 : h2.get? x1 = some o1 := hs2.extBut x1 o1 ne1 (Heap.get?_push_of_some _ h1)
  refine wpAny_bind (wpAny_holding (tuple_end_hot (x1 := x1) ⟨hh, o1, vs1, h12, d1, c1⟩ hit2 ht2 (by simp) ne1 fun h3 he3 => ?_))
  simp only [Option.isSome_none, Bool.false_eq_true, if_false]
  exact wpAny_pure (h h3 fun b o hb e => he3 b o hb (hs2.extBut b o hb (Heap.get?_push_of_some _ e)))
end
section
variable {X : Cx} {pos : Pos}
theorem pg_tupH {es : List Expr} {k : Nat} {t : TGs} {n : Nat} (hot : HotC X) (h : PGs X es t)
    (hn : (assignEach es X.env).length = n := by rfl) (hst : (assignEach es X.env).findIdx? (·.1) = none := by rfl) : PG X (.Tuple es k pos) (gTup X.K n t) := by
  constructor
  intro pins s σ H v u Q I r hw
  obtain ⟨a, xs, rfl, hq, hl, hw⟩ := hw
  cases r
  obtain ⟨its, rv, ht, hz⟩ := I.tuple hq
  obtain ⟨x1, hx1⟩ := hot.at I
  rw [assign_Tuple]
  refine wpAny_bind (wpAny_standAt (unpack_hot hx1 ht (by simp [hn, ← hl, rv.length]) hst fun h' hx => ?_))
  exact h.run pins _ σ H xs _ Q (I.kept (t' := s.toks) fun b o e => hx b o (Nat.ne_of_lt (Heap.lt_size e)) e) (by simpa using rv) hw
end
end Ba

set_option maxHeartbeats 400000
/-! a, *b, c = a list. -/
namespace Ba
open PySem PySem.Spec PyProof.Rows L2 PySem.W
section
variable {prog : Program} {w : World} {A : Around} {E : Value → Shared → Prop} {s : Shared}
theorem starL {l : Addr} {items : Array Value} {n i : Nat} {Q : List Value → Shared → Prop} (hl : s.heap.IsList l items) (hh : A.handled = none) (hi : i < n) (hn : n ≤ items.size + 1) (hz : items.size ≤ sizeLine)
    (h : ∀ h₂ tk, Heap.ExtBut s.heap.objs.size s.heap h₂ → wpAny (model prog w) A (newList ((items.toList.drop i).take (items.size + 1 - n))) (fun d s' => Q (items.toList.take i ++ [d] ++ (items.toList.drop i).drop (items.size + 1 - n)) s') E { s with heap := h₂, toks := tk }) :
    wpAny (model prog w) A (unpackItems (.ref l) n (some i)) Q E s := by
  have hlt : l ≠ s.heap.objs.size := by obtain ⟨o, ho, _⟩ := hl; exact Nat.ne_of_lt (Heap.lt_size ho)
  have hll : l < s.heap.objs.size := by obtain ⟨o, ho, _⟩ := hl; exact Heap.lt_size ho
  unfold unpackItems
  refine wpAny_bind ?_
  unfold notIterableAtAll
  refine wpAny_bind (wpAny_specialOf hl.typeIs F.slot_list_iter.lookup ?_)
  refine wpAny_pure ?_
  simp only [Bool.false_eq_true, if_false]
  refine wpAny_bind (wpAny_holding (wpAny_pyIter_list hl ?_))
  refine wpAny_bind (wpAny_holding (kun_draw hlt i 0 _ _ ⟨_, Heap.get?_push_size _ rfl, rfl, rfl⟩ (hl.push _) (by omega) fun h₁ hit₁ hs₁ => ?_))
  have hl₁ : h₁.IsList l items := (hl.push _).extBut hs₁.extBut hlt
  rw [Nat.zero_add] at hit₁
  have hit₁' := hit₁
  obtain ⟨oi, hoi, _⟩ := hit₁'
  have hl₁' := hl₁
  obtain ⟨ol, hol, _⟩ := hl₁'
  rw [List.drop_zero]
  have hfl : (items.toList.take i).length = i := by rw [List.length_take, Array.length_toList]; omega
  rw [if_neg (show ¬ ((items.toList.take i).length < i) by rw [hfl]; omega)]
  refine wpAny_bind (wpAny_holding (kun_collect (s := { s with heap := h₁ }) (T := "list_iterator") (.inr (.inr (.inl rfl))) (Walks.list (A := A.in1) hh s.heap.objs.size l hlt items) (fun j u st => st.1.typeIs) (k := i) (by omega) ⟨hit₁, hl₁⟩ (Heap.lt_size hoi) (Heap.lt_size hol) (fun h₂ tk hk => ?_) hz))
  have hrl : (items.toList.drop i).length = items.size - i := by rw [List.length_drop, Array.length_toList]
  have hmid : (items.toList.drop i).length - (n - 1 - i) = items.size + 1 - n := by rw [hrl]; omega
  show wpAny _ _ (if (items.toList.drop i).length < n - 1 - i then _ else _) _ _ _
  rw [if_neg (by rw [hrl]; omega)]
  show wpAny _ _ (newList ((items.toList.drop i).take ((items.toList.drop i).length - (n - 1 - i))) >>= fun d => pure (items.toList.take i ++ [d] ++ (items.toList.drop i).drop ((items.toList.drop i).length - (n - 1 - i)))) _ _ _
  rw [hmid]
  have he : Heap.ExtBut s.heap.objs.size s.heap h₂ := fun b o hb e => hk b o hb (hs₁.extBut b o hb (Heap.get?_push_of_some _ e))
  exact wpAny_bind (wpAny_mono (h h₂ tk he) (fun d s' q => wpAny_pure q) fun _ _ z => z)
end
theorem room65 {k : Nat} {A : Around} (r : Room k A) : A.units + 65 < cLine := by
  have := r.un
  omega
/-- a list, of which one target takes the rest as a new list -/
def gStar (K : PySem.W.Frag) (n i : Nat) (t : TGs) : TG := fun v σ H Q => ∃ a xs, v = .ref a ∧ SqL K H a xs ∧ n ≤ xs.length + 1 ∧ ∀ D, H D = none → t (xs.take i ++ [.ref D] ++ (xs.drop i).drop (xs.length + 1 - n)) σ (upd H D (.lst ((xs.drop i).take (xs.length + 1 - n)))) Q
theorem vals_take : ∀ {n : Nat} {xs : List V} {us : List Value}, Vals xs us → Vals (xs.take n) (us.take n)
  | 0, _, _, _ => by simpa using (.nil : Vals [] [])
  | n + 1, _, _, .nil => by simpa using (.nil : Vals [] [])
  | n + 1, _, _, .cons h t => by
    rw [List.take_succ_cons, List.take_succ_cons]
    exact .cons h (vals_take t)
theorem vals_drop : ∀ {n : Nat} {xs : List V} {us : List Value}, Vals xs us → Vals (xs.drop n) (us.drop n)
  | 0, _, _, h => by simpa using h
  | n + 1, _, _, .nil => by simpa using (.nil : Vals [] [])
  | n + 1, _, _, .cons h t => by simpa using vals_drop t
theorem vals_app : ∀ {xs ys : List V} {us vs : List Value}, Vals xs us → Vals ys vs → Vals (xs ++ ys) (us ++ vs)
  | _, _, _, _, .nil, h => h
  | _, _, _, _, .cons a t, h => .cons a (vals_app t h)
section
variable {X : Cx} {pos : Pos}
/-- f'..' of two parts or more, under a name -/
def tJd (ts : List TE) : TE := fun σ H Q => tJs ts Str.empty σ H fun out H1 => Q (.str out) H1
theorem pe_joinedD {v1 v2 : Expr} {rest : List Expr} {ts : List TE} {pos : Pos} (h : PJ X (v1 :: v2 :: rest) ts) : PE X (.JoinedStr (v1 :: v2 :: rest) pos) (tJd ts) := pe_joined h
theorem pgs_star {e : Expr} {es : List Expr} {t : TG} {u : TGs} {p : Pos} (h1 : PG X e t) (h2 : PGs X es u)
    (hs : (assignEach (.Starred e p :: es) X.env).map (·.2) = assign e X.env :: (assignEach es X.env).map (·.2) := by rfl) : PGs X (.Starred e p :: es) (gCons t u) := by
  constructor
  intro pins s σ H vs us Q I r h
  obtain ⟨v, vr, e1, h⟩ := h
  subst e1
  cases r with
  | cons r rr =>
    rw [hs]
    refine assignInOrder_cons (thn (h1.run pins s σ H _ _ _ I r h) fun _ s1 ⟨σ1, H1, I1, q1⟩ => ?_)
    exact h2.run pins s1 σ1 H1 _ _ Q I1 rr q1
theorem pg_star {es : List Expr} {k : Nat} {t : TGs} {n i : Nat} (hc : X.calm = true) (h : PGs X es t)
    (hn : (assignEach es X.env).length = n := by rfl) (hst : (assignEach es X.env).findIdx? (·.1) = some i := by rfl) (hi : i < n := by decide) : PG X (.Tuple es k pos) (gStar X.K n i t) := by
  constructor
  intro pins s σ H v u Q I r hw
  obtain ⟨a, xs, rfl, hq, hl, hw⟩ := hw
  cases r
  obtain ⟨its, rv, ht, hz⟩ := I.list hq
  have hlen := rv.length
  rw [assign_Tuple]
  refine wpAny_bind (wpAny_standAt ?_)
  unfold unpack
  rw [hn, hst]
  refine wpAny_bind (wpAny_holding (starL ht.isList (I.ok.hd hc) hi (by simp; omega) (by simp; omega) fun h₂ tk he => ?_))
  have I1 : Inv X pins σ H { s with heap := h₂, toks := tk } := I.kept (t' := tk) fun b o e => he b o (Nat.ne_of_lt (Heap.lt_size e)) e
  have e1 : its.toArray.size + 1 - n = xs.length + 1 - n := by simp [hlen]
  rw [e1]
  have hf : H h₂.objs.size = none := I1.hok.fresh (Nat.le_refl _)
  have rm := vals_take (n := xs.length + 1 - n) (vals_drop (n := i) rv)
  have rd := vals_drop (n := xs.length + 1 - n) (vals_drop (n := i) rv)
  have zz : ((its.toArray.toList.drop i).take (xs.length + 1 - n)).length ≤ sizeLine := by simp; omega
  show wpAny _ _ (newList _) _ _ _
  unfold newList
  refine wpAny_newObj_type ?_ zz
  refine h.run pins _ σ (upd H h₂.objs.size (.lst ((xs.drop i).take (xs.length + 1 - n)))) _ _ Q (I1.laid (t' := tk) (fun b u e => Heap.get?_push_of_some _ e) (Nat.le_refl _) ?_) ?_ (hw _ hf)
  · exact ⟨by rw [rm.length]; exact zz, _, 0, rm, Heap.get?_push_size _ rfl⟩
  · exact vals_app (vals_app (vals_take rv) (.cons rfl .nil)) rd
end
end Ba

set_option maxHeartbeats 400000
/-! A def called inside a try. -/
namespace Ba
open PySem PySem.Spec PyProof.Rows L2
section
variable {X : Cx} {k : Nat} {ps : List Str} {dvs : List V} {sp : Sp} {E : L2.St → XK} {x : Str} {p pos : Pos} {e : Expr} {es : List Expr} {t : TA}
theorem pe_fnS (D : DefOk X.prog X.w X.K X.mg X.base x k ps dvs sp) (hr : Room k X.A) (hx : ∀ σ, PassesAt (L2N.CX X.prog X.w) X σ (E σ)) (hg : Gl X x) (ha : PA X (e :: es) t) (hdb : (x == ("__debug__" : Str)) = false := by decide)
    (he : starEach (e :: es) X.env = (false, eval e X.env) :: starEach es X.env := by rfl) (hpl : (backTo pos (starEach es X.env)).any (·.1) = false := by rfl) :
    PE X (.Call (.Name x p) (e :: es) [] pos) (tCallSD sp dvs E t) := by
  obtain ⟨f, fd, ds, F, hm, hk, hb, hd⟩ := D
  exact pe_callSD F hr hg hm hk hb hd hx ha hdb he hpl
end
end Ba

set_option maxHeartbeats 4000000
/-! t[::-1], t a tuple. -/
namespace Ba
open PySem PySem.Spec PyProof.Rows L2 HT
section
variable {prog : Program} {w : World} {A : Around} {E : Value → Shared → Prop} {s : Shared}
theorem places_rev (n : Nat) : Builtin.Slice.slicePlaces ((n : Int) - 1) (-1) (-1) = n := by
  unfold Builtin.Slice.slicePlaces
  have h1 : ¬ ((-1 : Int) > 0) := by omega
  simp only [h1, if_false]
  have e : (-(-1) : Int) = 1 := by decide
  rw [e, Int.ediv_one]
  split <;> omega
theorem sliceApplied_rev {sl : Addr} {vs : Value} {n : Nat} {Q : Int × Int × Nat → Shared → Prop} (hs : s.heap.IsSliceOf sl .none .none vs) (ps : IsPart vs (some (-1)))
    (h : Q ((n : Int) - 1, -1, n) s) : wpAny (model prog w) A (Builtin.Slice.sliceApplied (.ref sl) (pure (n : Int))) Q E s := by
  obtain ⟨os, hos, hcs, hds⟩ := id hs
  unfold Builtin.Slice.sliceApplied Builtin.Slice.sliceFields
  refine wpAny_bind (wpAny_bind (wpAny_field hos hds (x := .none) rfl (wpAny_bind (wpAny_field hos hds (x := .none) rfl (wpAny_bind (wpAny_field hos hds (x := vs) rfl (wpAny_pure ?_)))))))
  refine wpAny_bind (slicePart_ ps ?_)
  show wpAny _ _ (if ((-1 : Int) == 0) = true then _ else _) _ _ s
  rw [if_neg (by decide)]
  refine wpAny_bind (slicePart_ .none (wpAny_bind (slicePart_ .none (wpAny_bind (wpAny_pure ?_)))))
  show wpAny _ _ (pure ((n : Int) - 1, (-1 : Int), Builtin.Slice.slicePlaces ((n : Int) - 1) (-1) (-1))) _ _ s
  rw [places_rev]
  exact wpAny_pure h
theorem pick_rev (xs : Array Value) : ((List.range xs.size).filterMap fun (m : Nat) => xs[(((xs.size : Int) - 1) + (m : Int) * (-1)).toNat]?).toArray = xs.toList.reverse.toArray := by
  have e : ((List.range xs.size).filterMap fun (m : Nat) => xs[(((xs.size : Int) - 1) + (m : Int) * (-1)).toNat]?) = ((List.range xs.size).map fun k => xs.size - 1 - k).filterMap (xs[·]?) := by
    rw [List.filterMap_map]
    congr 1
    funext m
    have : (((xs.size : Int) - 1) + (m : Int) * (-1)).toNat = xs.size - 1 - m := by omega
    rw [this]
    rfl
  rw [e, PySem.W.krv_range, List.filterMap_reverse, PySem.W.krv_all]
theorem getItem_tuple_rev {t sl : Addr} {items : Array Value} {vs : Value} {Q : Value → Shared → Prop} (ht : IsTup s.heap t items) (hs : s.heap.IsSliceOf sl .none .none vs) (ps : IsPart vs (some (-1)))
    (h : Q (.ref s.heap.objs.size) { s with heap := s.heap.push { cls := .type "tuple", data := .seq items.toList.reverse.toArray } })
    (hsz : items.size ≤ sizeLine) : wpAny (model prog w) A (getItem (.ref t) (.ref sl)) Q E s := by
  have htake : sizeOk (.seq items.toList.reverse.toArray) := by
    show items.toList.reverse.toArray.size ≤ sizeLine
    rw [List.size_toArray, List.length_reverse, Array.length_toList]
    omega
  obtain ⟨os, hos, hcs, hds⟩ := id hs
  have hTs : s.TypeIs (.ref sl) "slice" := ⟨os, hos, hcs⟩
  unfold getItem
  try with_reducible refine wpAny_holding ?_
  first | refine wpAny_bind (wpAny_pure ?_) | skip
  refine wpAny_bind (wpAny_sequenceKey ht.typeIs (by decide) ?_)
  refine wpAny_bind (wpAny_callSpecial?_slot (name := Str.ofString "__getitem__") ht.typeIs PyProof.Rows.slot_tuple_getitem
    (wpAny_call_entry PyProof.Rows.slot_tuple_getitem ht.typeIs entry_tuple_getitem ?_ (args_tuple_getitem _ _)))
  show wpAny _ _ (Builtin.Tuple.tupleItemsOf (.ref t) >>= _) _ _ s
  refine wpAny_bind (tupleItemsOf_ ht ?_)
  refine wpAny_bind (wpAny_typeOf hTs ?_)
  rw [if_pos (by decide)]
  refine wpAny_bind (sliceApplied_rev hs ps ?_)
  have hno : ¬ ((((items.size : Int) - 1) == 0 && (-1 : Int) == 1 && items.size == items.size) = true) := by
    intro q
    rw [Bool.and_eq_true, Bool.and_eq_true] at q
    exact absurd q.1.2 (by decide)
  show wpAny _ _ (if (((items.size : Int) - 1) == 0 && (-1 : Int) == 1 && items.size == items.size) = true then _ else _) _ _ s
  rw [if_neg hno, pick_rev]
  first
    | exact wpAny_bind (m := Builtin.Tuple.tupleExact _) (wpAny_newObj_type (wpAny_pure ⟨_, rfl, wpAny_pure h⟩) htake)
    | exact wpAny_bind (m := Builtin.Tuple.tupleExact _) (wpAny_newObj_type (wpAny_bind (wpAny_pure (wpAny_pure ⟨_, rfl, wpAny_pure h⟩))) htake)
    | exact wpAny_bind (wpAny_bind (m := Builtin.Tuple.tupleExact _) (wpAny_newObj_type (wpAny_pure (wpAny_pure ⟨_, rfl, wpAny_pure h⟩)) htake))
    | exact wpAny_bind (wpAny_bind (m := Builtin.Tuple.tupleExact _) (wpAny_newObj_type (wpAny_pure ⟨_, rfl, wpAny_pure h⟩) htake))
end
def tRevT (K : PySem.W.Frag) (te : TE) : TE := fun σ H Q => te σ H fun x H1 => ∃ a xs, x = .ref a ∧ SqT K H1 a xs ∧ ∀ p, H1 p = none → Q (.ref p) (upd H1 p (.tup xs.reverse))
theorem pe_revT {X : Cx} {e : Expr} {te : TE} {k : Nat} {p1 p2 p3 pos : Pos} (he : PE X e te) : PE X (.Subscript e (.Slice none none (some (.UnaryOp .USub (.Constant (.int 1) k p1) p2)) p3) pos) (tRevT X.K te) := by
  refine ⟨fun pins s σ H Q I h => ?_⟩
  refine Subscript_ (thn (he.run pins s σ H _ I h) fun v s1 ⟨x, H1, I1, r1, q1⟩ => ?_)
  obtain ⟨a, xs, ex, hx, q⟩ := q1
  subst ex
  cases r1
  have hst : PO X (some (.UnaryOp .USub (.Constant (.int 1) k p1) p2)) (tPart (tUn (rU fun i => .int (-i)) (tC (.int 1)))) := po_some (pe_un un_neg pe_int)
  refine wpAny_Slice (thn (po_none.run pins s1 σ H1 (fun o H2 => o = none ∧ H2 = H1) I1 ⟨rfl, rfl⟩) fun vl s2 ⟨l, H2, I2, pl, el, e2⟩ => ?_)
  subst el e2
  refine thn (po_none.run pins s2 σ H2 (fun o H3 => o = none ∧ H3 = H2) I2 ⟨rfl, rfl⟩) fun vu s3 ⟨u, H3, I3, pu, eu, e3⟩ => ?_
  subst eu e3
  cases pl
  cases pu
  refine thn (hst.run pins s3 σ H3 (fun o H4 => o = some (-1) ∧ H4 = H3) I3 ⟨1, rfl, -1, rfl, rfl, rfl⟩) fun vs s4 ⟨o, H4, I4, ps, eo, e4⟩ => ?_
  subst eo e4
  have I5 : Inv X pins σ H4 { s4 with heap := s4.heap.push { cls := .type "slice", data := .fields #[Value.none, Value.none, vs] } } := I4.kept (t' := s4.toks) fun b ob q => Heap.get?_push_of_some _ q
  obtain ⟨its, r, ht, hz⟩ := I5.tuple hx
  have hlen := r.length
  show wpAny (model X.prog X.w) X.A (subscriptTail e (.Slice none none (some (.UnaryOp .USub (.Constant (.int 1) k p1) p2)) p3) (.ref a) (.ref s4.heap.objs.size)) (EP X pins σ Q) X.xe { s4 with heap := s4.heap.push { cls := .type "slice", data := .fields #[Value.none, Value.none, vs] } }
  refine tail_any (ops := [.ref a, .ref s4.heap.objs.size]) ht.typeIs (PyProof.Rows.slot_tuple_getitem.lookup) ?_ (by with_unfolding_all rfl)
  refine getItem_tuple_rev ht (Heap.IsSliceOf.new _ _ _ vs) ps ?_ (by rw [List.size_toArray]; omega)
  refine ⟨.ref _, _, I5.laid (t' := s4.toks) (o := .tup xs.reverse) (fun b ob q => Heap.get?_push_of_some _ q) (Nat.le_refl _) ?_, rfl, q _ (I5.hok.fresh (Nat.le_refl _))⟩
  exact ⟨by rw [List.length_reverse]; exact hz, its.reverse, r.reverse, ⟨_, Heap.get?_push_size _ rfl, rfl, 0, rfl⟩⟩
end Ba

set_option maxHeartbeats 4000000
/-! An own exception with its own __init__, its context None; isinstance of a handled exception with a dict. -/
namespace Ba
open PySem PySem.Spec PyProof.Rows L2
section
variable {X : Cx} {p pos : Pos} {e : Expr} {es : List Expr} {ta : TA}
theorem mk_endN {pins : List (Addr × Obj)} {σ : L2.St} {H1 H2 : Hp} {Q : XK} {hp hp2 h2 : Heap} {g1 g2 : Array GenState} {d1 d2 : Drawn} {t1 t2 : Nat} {os1 os2 : OsState} {a C d : Addr} {fs : List (Str × V)} (T : Raises X (.ref C)) (I1 : Inv X pins σ H1 ⟨hp, g1, d1, t1, os1⟩)
    (ha : hp.objs.size ≤ a) (k : ∀ b o, hp.get? b = some o → hp2.get? b = some o) (un : Un (frs X.stack) [] (upd H1 a (exo a C none)) H2 hp2 h2) (hok : HOk X.prog X.w H2 h2) (ho : os2 = os1) (hb : AllBare g2)
    (ea : H2 a = some (exo a C (some d))) (ed : H2 d = some (exd d fs)) (hd1 : H1 d = none) (q : Q (.ref C) (some d) (upd (del H2 a) d (.xd fs))) : L2N.MkP X pins σ Q (.ref a) ⟨h2, g2, d2, t2, os2⟩ := by
  obtain ⟨t0, G, J, kG, ge, hoe, na⟩ := mk_end0 (d2 := d2) (t2 := t2) I1 ha k un hok ho hb ea ed hd1
  exact ⟨a, _, _, ⟨G, g2, d2, t2, os2⟩, _, .ref C, some d, rfl, J, kG, ge, hoe, ⟨rfl, rfl, fun vs e => by cases e; rfl⟩, rfl, rfl, na, rfl, hb, T, q⟩
theorem pmk_oexN {CX : CXT} {x : Str} {C fI : Addr} {k : Nat} {fd : FuncData} {ps : List Str} {sp : Sp} {ds : List Value} {dvs : List V} (T : OexC X.K C) (iC : PySem.W.findIn X.K (.ref C) "__init__" = some (some (.ref fI))) (tI : PySem.W.typeIn X.K (.ref fI) = some (.type "function"))
    (F1 : FnOk X.prog X.w X.K X.mg X.base CX k fI fd ps sp) (hr : Room (k + 1) X.A) (hb : Binds X.K fd ps ds) (hd : Vals dvs ds) (hx : Passes CX X (fun _ _ _ => False)) (hg : Gl X x) (hm : X.mg x = some (.ref C)) (ha : PA X (e :: es) ta)
    (hdb : (x == ("__debug__" : Str)) = false := by decide) (he : starEach (e :: es) X.env = (false, eval e X.env) :: starEach es X.env := by rfl) (hpl : (backTo pos (starEach es X.env)).any (·.1) = false := by rfl) :
    L2N.PMk X (.Call (.Name x p) (e :: es) [] pos) (tMkO C sp dvs ta) := by
  intro pins s σ H Q I h
  obtain ⟨nm, q, N, bs, bm, sn, sub, ab, col, dd, k0, k1, k2, k3, k5, hC, hbm⟩ := T.cls
  refine wpAny_Call_Name_kw (ld_glob I hg hm ?_ hdb)
  refine PySem.W.callWith_K (h₀ := X.base) I.ok.mod.kin T.kC (thn (ha.run pos pins s σ H _ I h) fun us s1 ⟨vs, H1, I1, r1, hz, q1⟩ => ⟨I1.kIn, ?_⟩) he hpl
  show wpAny _ _ (call (.ref C) us) _ _ _
  obtain ⟨hp, g, dr, tk, os⟩ := s1
  have hsz : hp.objs.size ≤ hp.objs.size + 1 := Nat.le_succ _
  have hn : H1 (hp.objs.size + 1) = none := I1.hok.fresh hsz
  have hq := q1 (hp.objs.size + 1) hn
  have kk : ∀ b o, hp.get? b = some o → ((hp.push (PySem.W.kdv_tup us)).push (PySem.HandSPX.excO C hp.objs.size)).get? b = some o := fun b o e => Heap.get?_push_of_some _ (Heap.get?_push_of_some _ e)
  have hget : ((hp.push (PySem.W.kdv_tup us)).push (PySem.HandSPX.excO C hp.objs.size)).get? (hp.objs.size + 1) = some (PySem.HandSPX.excO C hp.objs.size) := by heap_get
  have I2 : Inv X pins σ (upd H1 (hp.objs.size + 1) (exo (hp.objs.size + 1) C none)) ⟨(hp.push (PySem.W.kdv_tup us)).push (PySem.HandSPX.excO C hp.objs.size), g, dr, tk, os⟩ :=
    I1.laid (t' := tk) (a := hp.objs.size + 1) (o := exo (hp.objs.size + 1) C none) (h' := (hp.push (PySem.W.kdv_tup us)).push (PySem.HandSPX.excO C hp.objs.size)) kk hsz (exo_ok hget)
  have r2 : Vals (V.ref (hp.objs.size + 1) :: (vs ++ dvs)) (Value.ref (hp.objs.size + 1) :: (us ++ ds)) := .cons rfl (r1.append hd)
  have hl : (Value.ref (hp.objs.size + 1) :: us ++ ds).length = ps.length := by
    have e := r2.length
    rw [F1.len _ _ _ _ hq] at e
    exact e.symm
  have hus : us.length ≤ sizeLine := by
    rw [← Paired.length r1, sizeLine_eq]
    omega
  refine wpAny_call (PySem.HandSPX.call_own F.excBase_ValueError (fun Y => PySem.HandSPX.refsVE_contains Y bm hbm) (I1.kIn _ _ hC) (PySem.W.looks_findIn I1.kIn iC) (fun self => PySem.W.bind_fn I1.kIn self tI) hus
    (codeAny_mono (F1.run _ X.stack _ _ ⟨Value.ref (hp.objs.size + 1) :: us, []⟩ (Value.ref (hp.objs.size + 1) :: (us ++ ds)) _ _ (fun _ _ _ => False) (hr.make C us []) (I2.env0.make C us []) (hb _ (Value.ref (hp.objs.size + 1) :: us) I2.kIn hl) r2 hq) fun r s' hq' => ?_))
  cases r with
  | error er => exact hx pins σ _ _ er s' I2 hq'
  | ok fl =>
    cases fl with
    | ret u =>
      obtain ⟨v, H2, os2, bare2, un2, hok2, rv, ev, d, fs, ea, ed, hd1, q2⟩ := hq'
      subst ev
      obtain ⟨h2, g2, d2, t2, os'⟩ := s'
      exact ⟨rv, mk_endN (raises_own T.exC T.tyC) I1 hsz kk un2 hok2 os2 bare2 ea ed hd1 q2⟩
    | next => exact False.elim hq'
    | brk => exact False.elim hq'
    | cont => exact False.elim hq'
end
section
variable {X : Cx} {k : Nat} {ps : List Str} {sp : Sp} {x : Str} {C : Addr} {p pos : Pos} {e : Expr} {es : List Expr} {ta : TA}
theorem pmk_x (D : OMk X.prog X.w X.K X.mg X.base x C k ps sp) (hr : Room (k + 1) X.A) (hx : Passes (L2N.CX X.prog X.w) X (fun _ _ _ => False)) (hg : Gl X x) (ha : PA X (e :: es) ta)
    (hdb : (x == ("__debug__" : Str)) = false := by decide) (he : starEach (e :: es) X.env = (false, eval e X.env) :: starEach es X.env := by rfl) (hpl : (backTo pos (starEach es X.env)).any (·.1) = false := by rfl) :
    L2N.PMk X (.Call (.Name x p) (e :: es) [] pos) (tMkO C sp [] ta) := by
  obtain ⟨T, f, fd, iC, tI, F, hb, hm⟩ := D
  exact pmk_oexN T iC tI F hr hb .nil hx hg hm ha hdb he hpl
end
end Ba
namespace Ba
open PySem PySem.Spec PySem.Calls PyProof.Rows PySem.W
section
variable {prog : Program} {w : World} {A : Around} {E : Value → Shared → Prop} {s : Shared} {K : Frag} {x D : Addr} {ox : Obj} {od : Option Obj}
theorem findObj_dataA {C : Addr} {name : Str} {a g : Value} (hc : (clsIn K C).isSome = true) (ha : findIn K (.ref C) name = some (some a)) (hg : specialIn K a "__get__" = some (some g)) (ht : takesIn K a = some true) : findObj K C od name = some (.bind g a) := by
  obtain ⟨cd, hc⟩ := Option.isSome_iff_exists.mp hc
  unfold findObj
  rw [hc, Option.bind_some, ha, Option.bind_some]
  simp [hg, ht]
theorem kin_classA {Q : Option Value → Shared → Prop} (hga : findIn K (.ref D) "__getattribute__" = some (some (.builtin "BaseException.__getattribute__"))) (hgt : findIn K (.ref D) "__getattr__" = some none) (hsub : subIn K (.ref D) (.type "BaseException") = some true)
    (hdct : hasDictIn K D = true) (ha : findIn K (.ref D) "__class__" = some (some (.builtin "object.__class__")))
    (hn : specialIn K (.builtin "object.__class__") "__get__" = some (some (.builtin "getset_descriptor.__get__"))) (htk : takesIn K (.builtin "object.__class__") = some true) (hm : mroIn K D (.type "object") = some true)
    (X : K.In s.heap) (I : InstAt s.heap x ox D od) (h : Q (some (.ref D)) { s with toks := s.toks + 1 }) : wpAny (model prog w) A (getAttr? (.ref x) "__class__") Q E s := by
  have hf : findObj K D od "__class__" = some (.bind (.builtin "getset_descriptor.__get__") (.builtin "object.__class__")) := findObj_dataA (by obtain ⟨cd, hc, _⟩ := any_some hdct; rw [hc]; rfl) ha hn htk
  obtain ⟨hp, g, d, t, os⟩ := s
  have L0 := I.type (M := model prog w)
  have L1 := looks_findIn (M := model prog w) X hga
  have L2 := looks_findIn (M := model prog w) X hgt
  have L3 := looks_find (M := model prog w) X I hf
  have sub : Looks (model prog w) hp (isInstance (.ref x) (.type "BaseException")) true := L0.andThen (looks_subIn X hsub)
  have hx0 : (false && onTheHeap (Value.builtin "BaseException.__getattribute__")) = false := rfl
  have hx2 : (Value.builtin "BaseException.__getattribute__" == Value.builtin "object.__getattribute__") = false := by decide +kernel
  have hx1 : (onTheHeap (Value.ref D) && Value.builtin "BaseException.__getattribute__" == Value.builtin "object.__getattribute__") = false := by rw [hx2]; rfl
  unfold getAttr? getAttrBy? getAttrBy
  refine wpAny_bind (wpAny_mkText (wpAny_bind (wpAny_attempt (wpAny_holding (wpAny_bind (L0.at (wpAny_bind (L1.at ?_))))))))
  show wpAny _ _ (if (onTheHeap (Value.ref D) && Value.builtin "BaseException.__getattribute__" == Value.builtin "object.__getattribute__") = true then _ else _) _ _ _
  rw [hx1, if_neg Bool.false_ne_true]
  unfold getAttrByItsOwn hookBefore
  refine wpAny_bind ?_
  rw [if_pos (show onTheHeap (Value.ref D) = true from rfl)]
  refine L2.at ?_
  refine wpAny_bind (wpAny_attempt (wpAny_holding ?_))
  unfold callGetattribute
  rw [hx0, if_neg Bool.false_ne_true]
  unfold boundAndCalled
  rw [PySem.F.excAttr_ValueError.ga.bind (.ref x)]
  refine wpAny_bind (wpAny_pure ?_)
  show wpAny _ _ (call (.builtin "BaseException.__getattribute__") [.ref x, .str "__class__" t]) _ _ _
  refine wpAny_call (codeAny_call_builtin PySem.F.excAttr_ValueError.ga.plain PySem.F.entry_bexc_ga ?_)
  refine @check_slot (model prog w) _ _ ⟨hp, g, d, t + 1, os⟩ "BaseException.__getattribute__" "BaseException" "__getattribute__" (.ref x) [.str "__class__" t] [] _ (by decide +kernel) (by decide +kernel) sub (PySem.F.args_bexc_ga (.ref x) (.str "__class__" t)) ?_
  unfold Builtin.«object.__getattribute__»
  refine wpAny_bind (wpAny_of_eq (a := ((Value.ref x : Value), [Value.str "__class__" t])) (by first | rfl | (simp only [slotArgs]; rfl)) ?_)
  refine wpAny_bind (wpAny_pure (wpAny_bind (L0.at (wpAny_bind (L3.at ?_)))))
  show wpAny _ _ (holding [Value.builtin "object.__class__"] (call (.builtin "getset_descriptor.__get__") [.builtin "object.__class__", .ref x, .ref D]) >>= ret) _ _ _
  refine wpAny_bind (wpAny_holding (wpAny_call (class_get (s := ⟨hp, g, d, t + 1, os⟩) (ox := ox) (od := od) X I hm ?_)))
  refine wpAny_pure ?_
  show wpAny _ _ (handedOut (.ref D)) _ _ _
  rw [handedOut_of (v := .ref D) rfl]
  first
    | exact wpAny_pure (wpAny_pure h)
    | exact wpAny_pure h
    | exact wpAny_pure (wpAny_bind (wpAny_pure (wpAny_pure h)))
theorem kitx_excA (hga : findIn K (.ref D) "__getattribute__" = some (some (.builtin "BaseException.__getattribute__"))) (hgt : findIn K (.ref D) "__getattr__" = some none) (hsub : subIn K (.ref D) (.type "BaseException") = some true) (hdct : hasDictIn K D = true) (ha : findIn K (.ref D) "__class__" = some (some (.builtin "object.__class__")))
    (hn : specialIn K (.builtin "object.__class__") "__get__" = some (some (.builtin "getset_descriptor.__get__"))) (htk : takesIn K (.builtin "object.__class__") = some true) (hm : mroIn K D (.type "object") = some true) :
    KitX K (.ref x) (.ref D) (fun h => InstAt h x ox D od) where
  ty := fun _ _ _ I => I.type
  it := fun _ _ X _ => by
    obtain ⟨cdD, hcD, _⟩ := any_some hdct
    unfold clsIn at hcD
    split at hcD
    · rename_i c' d' cd' sl' ho
      intro A' Q' E' s' k q
      unfold isType loadHead
      exact wpAny_bind (wpAny_loadPart (k _ _ (X _ _ ho)) (wpAny_pure q))
    · cases hcD
  ne := fun h tp dd its n sl X htp => by
    obtain ⟨cdD, hcD, _⟩ := any_some hdct
    refine Bool.eq_false_iff.mpr fun q => ?_
    have e : D = tp := Value.ref.inj (beq_iff_eq.mp q)
    subst e
    unfold clsIn at hcD
    split at hcD
    · rename_i c' d' cd' sl' ho
      have z := (X _ _ ho).symm.trans htp
      cases z
    · cases hcD
  ca := fun X I k => kin_classA hga hgt hsub hdct ha hn htk hm X I k
end
end Ba
namespace Ba
open PySem PySem.Spec PyProof.Rows L2
section
variable {X : Cx}
/-- isinstance(e, C), e the handled exception, its dict tracked -/
theorem call_isPd {p : Addr × Obj} {D dd : Addr} (C : ExcC X.K D) (hp : p ∈ X.pn) (hz : ZH (.ref D) (some dd) p.2) : CallR X (.builtin "isinstance") (fun xs H Q => (∃ fs, H dd = some (.xd fs)) ∧ rIsE X.K D p.1 xs H Q) := by
  intro pins s σ H xs us Q I r h
  obtain ⟨⟨fs, hd⟩, c, cv, b, rfl, hcv, e, q⟩ := h
  cases r with
  | cons rx rr =>
    cases rr with
    | cons rt rr =>
      cases rr
      cases rx
      cases hcv _ rt
      have hget := (I.pin p (List.mem_append_left _ hp)).1
      obtain ⟨⟨h1, h2⟩, vs, hv⟩ := hz
      obtain ⟨o, ho⟩ : ∃ o, s.heap.get? dd = some o := by
        have hx : ObjOk X.prog X.w H s.heap dd (.xd fs) := I.hok dd _ hd
        obtain ⟨mA, ⟨o, es, ep, ho, hr⟩, _⟩ := hx
        exact ⟨o, ho⟩
      have J : PySem.W.InstAt s.heap p.1 p.2 D (some o) := by
        obtain ⟨a, oc, od, oda, osl⟩ := p
        dsimp only at h1 h2 hv
        subst h1 h2 hv
        exact ⟨hget, rfl, rfl, ho⟩
      exact PySem.W.kia_one (kitx_excA C.hg C.hk C.hs C.hd C.ha C.hn C.ht C.hm) I.kIn J e (fun z => nomatch z) fun tk => ⟨.bl b, H, I.kept (t' := tk) fun _ _ z => z, rfl, q⟩
end
end Ba

set_option maxHeartbeats 400000
namespace Ba
open PySem PySem.Spec PyProof.Rows L2
section
variable {P : Program} {w : World} {K : PySem.W.Frag} {mg : Str → Option Value} {base : Heap} {f : Addr} {fd : FuncData}
/-! ### is_int, in_range, is_ship -/
/-- any value whose kind is known -/
abbrev spIsInt (K : PySem.W.Frag) : Sp := Pr fun vs H Q _ => ∃ (v : V) (t : String) (b c : Bool), vs = [v] ∧ TyX K H v (.type t) ∧ kitB t "int" = some b ∧ kitB t "bool" = some c ∧ Q (.bl (b && !c)) H
theorem ok_is_int (B : Bi mg) (F : FunS K "is_int" "is_int" s_is_int [] [] f fd) (hm : mg "is_int" = some (.ref f)) :
    DefOk P w K mg base "is_int" 1 p_is_int [] (spIsInt K) := by
  have S := sc_is_int
  refine defOk F hm S (fun _ _ _ _ _ _ us hl => match us, hl with | [_], _ => rfl) (fun vs H Q E h => ?_) (fun cdv A outer s H vs Q E hr h => ?_)
  · obtain ⟨v, t, b, c, rfl, _⟩ := h
    rfl
  · obtain ⟨v, t, b, c, rfl, ty, h1, h2, q⟩ := h
    refine ⟨_, (pss_one (ps_ret (pe_and (pe_callB call_isA (by rfl) B.isinstance (by decide +kernel) (pa_cons (pv 0) (pa_cons (pe_bltn (v := .ty "int") (by rfl) B.int (by decide +kernel) rfl) pa_nil))) (pe_one (pe_not (pe_callB call_isA (by rfl) B.isinstance (by decide +kernel) (pa_cons (pv 0) (pa_cons (pe_bltn (v := .ty "bool") (by rfl) B.bool (by decide +kernel) rfl) pa_nil)))))))), ?_⟩
    refine ⟨_, rfl, v, t, "int", b, rfl, ty, h1, b, rfl, ?_⟩
    cases b with
    | false => exact q
    | true => exact ⟨_, rfl, v, t, "bool", c, rfl, ty, h2, c, rfl, q⟩
/-- a value that is no integer -/
def NotInt (K : PySem.W.Frag) (H : Hp) (v : V) : Prop := ∃ (t : String) (b c : Bool), TyX K H v (.type t) ∧ kitB t "int" = some b ∧ kitB t "bool" = some c ∧ (b && !c) = false
def inRangeD (lo hi : Int) : PyData → Bool
  | .int i => decide (lo ≤ i) && decide (i ≤ hi)
  | _ => false
theorem notInt_of {H : Hp} {v : V} {d : PyData} (h : Dp K H v d) (hd : ∀ i, d ≠ .int i) : NotInt K H v := by
  refine ⟨tyN d, ?_⟩
  cases d with
  | none => exact ⟨false, false, dp_ty h, (show kitB "NoneType" "int" = some false by decide +kernel), (show kitB "NoneType" "bool" = some false by decide +kernel), rfl⟩
  | bool b => exact ⟨true, true, dp_ty h, (show kitB "bool" "int" = some true by decide +kernel), (show kitB "bool" "bool" = some true by decide +kernel), rfl⟩
  | int i => exact absurd rfl (hd i)
  | str x => exact ⟨false, false, dp_ty h, (show kitB "str" "int" = some false by decide +kernel), (show kitB "str" "bool" = some false by decide +kernel), rfl⟩
  | list xs => exact ⟨false, false, dp_ty h, (show kitB "list" "int" = some false by decide +kernel), (show kitB "list" "bool" = some false by decide +kernel), rfl⟩
  | tuple xs => exact ⟨false, false, dp_ty h, (show kitB "tuple" "int" = some false by decide +kernel), (show kitB "tuple" "bool" = some false by decide +kernel), rfl⟩
  | dict kvs => cases h
abbrev spInRange (K : PySem.W.Frag) : Sp := Pr fun vs H Q _ => ∃ (v : V) (lo hi : Int), vs = [v, .int lo, .int hi] ∧ ((∃ i, v = .int i ∧ Q (.bl (decide (lo ≤ i) && decide (i ≤ hi))) H) ∨ (NotInt K H v ∧ Q (.bl false) H))
theorem inRange_dp {H : Hp} {v : V} {d : PyData} {lo hi : Int} {Q : VK} {E : XK} (h : Dp K H v d) (q : Q (.bl (inRangeD lo hi d)) H) : spInRange K [v, .int lo, .int hi] H Q E := by
  refine ⟨v, lo, hi, rfl, ?_⟩
  cases d with
  | int i => cases h; exact .inl ⟨i, rfl, q⟩
  | none => exact .inr ⟨notInt_of h (fun _ z => nomatch z), q⟩
  | bool b => exact .inr ⟨notInt_of h (fun _ z => nomatch z), q⟩
  | str x => exact .inr ⟨notInt_of h (fun _ z => nomatch z), q⟩
  | list xs => exact .inr ⟨notInt_of h (fun _ z => nomatch z), q⟩
  | tuple xs => exact .inr ⟨notInt_of h (fun _ z => nomatch z), q⟩
  | dict kvs => cases h
theorem ok_in_range (D_is_int : DefOk P w K mg base "is_int" 1 p_is_int [] (spIsInt K)) (F : FunS K "in_range" "in_range" s_in_range [] [] f fd) (hm : mg "in_range" = some (.ref f)) :
    DefOk P w K mg base "in_range" 2 p_in_range [] (spInRange K) := by
  have S := sc_in_range
  refine defOk F hm S (fun _ _ _ _ _ _ us hl => match us, hl with | [_, _, _], _ => rfl) (fun vs H Q E h => ?_) (fun cdv A outer s H vs Q E hr h => ?_)
  · obtain ⟨v, lo, hi, rfl, _⟩ := h
    rfl
  · obtain ⟨v, lo, hi, rfl, h⟩ := h
    refine ⟨_, (pss_one (ps_ret (pe_and (pe_fn D_is_int (hr.mono (by decide)) passLB rfl (pa_cons (pv 0) pa_nil)) (pe_one (pe_chain op_le op_le (pv 1) (pv 0) (pv 2)))))), ?_⟩
    rcases h with ⟨i, rfl, q⟩ | ⟨⟨t, b, c, ty, h1, h2, e⟩, q⟩
    · refine ⟨_, rfl, .int i, "int", true, false, rfl, .base (.int i), by decide +kernel, by decide +kernel, true, rfl, ?_⟩
      refine ⟨_, rfl, _, rfl, _, _, rfl, rfl, _, rfl, ?_⟩
      by_cases hlo : lo ≤ i
      · rw [decide_eq_true hlo] at q ⊢
        exact ⟨_, rfl, _, _, rfl, rfl, q⟩
      · rw [decide_eq_false hlo] at q ⊢
        exact q
    · refine ⟨_, rfl, v, t, b, c, rfl, ty, h1, h2, _, rfl, ?_⟩
      rw [e]
      exact q
def isShipD (h : Int) : PyData → Bool
  | .tuple [a, b] => inRangeD 0 (h - 1) a && inRangeD 1 10000 b
  | _ => false
/-- a test that is no tuple's -/
abbrev spIsShip (K : PySem.W.Frag) : Sp := Pr fun vs H Q _ => ∃ (h : Int) (v : V) (d : PyData), vs = [.int h, v] ∧ Dp K H v d ∧ Q (.bl (isShipD h d)) H
theorem dpAll_two {H : Hp} {vs : List V} {ds : List PyData} (h : DpAll K H vs ds) (hl : ds.length = 2) : ∃ d1 d2 v1 v2, ds = [d1, d2] ∧ vs = [v1, v2] ∧ Dp K H v1 d1 ∧ Dp K H v2 d2 := by
  match ds, vs, h, hl with
  | [d1, d2], [v1, v2], .cons h1 (.cons h2 .nil), _ => exact ⟨d1, d2, v1, v2, rfl, rfl, h1, h2⟩
theorem isShipD_len {h : Int} {ds : List PyData} (hl : ¬ ds.length = 2) : isShipD h (.tuple ds) = false := by
  match ds, hl with
  | [], _ => rfl
  | [_], _ => rfl
  | [_, _], h2 => exact absurd rfl h2
  | _ :: _ :: _ :: _, _ => rfl
theorem iteNN {c A B : Prop} [Decidable c] (hc : ¬ c) (h : A) : if (!decide c) = true then A else B := by rw [decide_eq_false hc]; exact h
theorem dpAll_len {H : Hp} : ∀ {vs : List V} {ds : List PyData}, DpAll K H vs ds → vs.length = ds.length
  | _, _, .nil => rfl
  | _, _, .cons _ t => by rw [List.length_cons, List.length_cons, dpAll_len t]
theorem isTup_no {d : PyData} (hd : ∀ xs, d ≠ .tuple xs) : kitB (tyN d) "tuple" = some false := by
  cases d with
  | tuple xs => exact absurd rfl (hd xs)
  | none => exact (show kitB "NoneType" "tuple" = some false by decide +kernel)
  | bool b => exact (show kitB "bool" "tuple" = some false by decide +kernel)
  | int i => exact (show kitB "int" "tuple" = some false by decide +kernel)
  | str x => exact (show kitB "str" "tuple" = some false by decide +kernel)
  | list x => exact (show kitB "list" "tuple" = some false by decide +kernel)
  | dict x => exact (show kitB "dict" "tuple" = some false by decide +kernel)
theorem isTup_yes : kitB "tuple" "tuple" = some true := by decide +kernel
theorem ok_is_ship (B : Bi mg) (T : TTab mg) (D_in_range : DefOk P w K mg base "in_range" 2 p_in_range [] (spInRange K)) (F : FunS K "is_ship" "is_ship" s_is_ship [] [] f fd) (hm : mg "is_ship" = some (.ref f)) :
    DefOk P w K mg base "is_ship" 3 p_is_ship [] (spIsShip K) := by
  have S := sc_is_ship
  refine defOk F hm S (fun _ _ _ _ _ _ us hl => match us, hl with | [_, _], _ => rfl) (fun vs H Q E h => ?_) (fun cdv A outer s H vs Q E hr h => ?_)
  · obtain ⟨h, v, d, rfl, _⟩ := h
    rfl
  · obtain ⟨h, v, d, rfl, hd, q⟩ := h
    refine ⟨_, (pss_cons (ps_if (PW.pt (pw_or (pt_not (pt_val (pe_callB call_isA (by rfl) B.isinstance (by decide +kernel) (pa_cons (pv 1) (pa_cons (pe_bltn (v := .ty "tuple") (by rfl) B.tuple (by decide +kernel) rfl) pa_nil))))) (pw_or1 (pt_cmpR op_ne (pe_callB call_len_seq (by rfl) B.len (by decide +kernel) (pa_cons (pv 1) pa_nil)) pe_int (nomark _))))) (pss_one (ps_ret pe_bl)) pss_nil)
      (pss_one (ps_ret (pe_and (pe_fn D_in_range (hr.mono (by decide)) passLB rfl (pa_cons (pe_ix ix_tup (pv 1) pe_int (fun _ _ => rfl)) (pa_cons pe_int (pa_cons (pe_op op_sub (pv 0) pe_int) pa_nil)))) (pe_one (pe_fn D_in_range (hr.mono (by decide)) passLB rfl (pa_cons (pe_ix ix_tup (pv 1) pe_int (fun _ _ => rfl)) (pa_cons pe_int (pa_cons (pe_gint (i := 10000) (by rfl) T.MOST_STAY) pa_nil))))))))), ?_⟩
    by_cases ht : ∃ xs, d = .tuple xs
    · obtain ⟨ds, rfl⟩ := ht
      obtain ⟨a, xs, rfl, hs, ha⟩ : ∃ a xs, v = .ref a ∧ SqT K H a xs ∧ DpAll K H xs ds := by
        cases hd with
        | tup h1 h2 => exact ⟨_, _, rfl, h1, h2⟩
      refine ⟨_, rfl, .ref a, "tuple", "tuple", true, rfl, sqT_ty hs, isTup_yes, true, rfl, ?_⟩
      refine iteF ?_
      refine ⟨_, rfl, a, xs, rfl, .inr hs, rfl, _, rfl, ?_⟩
      by_cases h2 : ds.length = 2
      · obtain ⟨d1, d2, v1, v2, rfl, rfl, h1, h2⟩ := dpAll_two ha h2
        · refine iteNS rfl ?_
          refine ⟨_, rfl, ?_⟩
          refine ⟨a, _, _, v1, rfl, rfl, hs, rfl, ?_⟩
          refine ⟨_, rfl, _, _, rfl, rfl, ?_⟩
          refine inRange_dp h1 ?_
          refine ⟨_, rfl, ?_⟩
          cases e : inRangeD 0 (h - 1) d1 with
          | false =>
            have : isShipD h (.tuple [d1, d2]) = false := by simp only [isShipD, e, Bool.false_and]
            rw [this] at q
            exact q
          | true =>
            have : isShipD h (.tuple [d1, d2]) = inRangeD 1 10000 d2 := by simp only [isShipD, e, Bool.true_and]
            rw [this] at q
            exact ⟨_, rfl, a, _, _, v2, rfl, rfl, hs, rfl, inRange_dp h2 q⟩
      · have hne : ¬ (V.int (xs.length : Int) = V.int 2) := fun z => by
          injection z with z
          rw [dpAll_len ha] at z
          omega
        refine iteNN hne ?_
        rw [isShipD_len h2] at q
        exact q
    · have hn : ∀ xs, d ≠ .tuple xs := fun xs e => ht ⟨xs, e⟩
      refine ⟨_, rfl, v, tyN d, "tuple", false, rfl, dp_ty hd, isTup_no hn, false, rfl, ?_⟩
      refine iteT ?_
      have : isShipD h d = false := by
        cases d with
        | tuple xs => exact absurd rfl (hn xs)
        | _ => rfl
      rw [this] at q
      exact q
end
end Ba

set_option maxHeartbeats 400000
namespace Ba
open PySem PySem.Spec PyProof.Rows L2
/-! ### timetables as data; the events of a day -/
def shD (s : Int × Int) : PyData := .tuple [.int s.1, .int s.2]
def tbD (h : Int) (ss : List (Int × Int)) : PyData := .tuple [.int h, .tuple (ss.map shD)]
abbrev Ev5 := Int × Int × Int × Int × Int
def enc5 (e : Ev5) : PyData := .tuple [.int e.1, .int e.2.1, .int e.2.2.1, .int e.2.2.2.1, .int e.2.2.2.2]
def enc4 (e : Ev5) : PyData := .tuple [.int e.1, .int e.2.1, .int (-e.2.2.1), .int e.2.2.2.2]
def depEv (h : Int) (k : Nat) (s : Int × Int) : Ev5 := ((s.1 + s.2) % h, 0, -((s.1 + s.2) / h), s.1, (k : Int))
def arrEv (k : Nat) (s : Int × Int) : Ev5 := (s.1, 1, 0, s.1, (k : Int))
def evs (h : Int) (ss : List (Int × Int)) : List Ev5 := (ss.mapIdx (depEv h) ++ ss.mapIdx arrEv).mergeSort (PySem.W.dataLe false enc5)
theorem enc5_alike (b b' : Ev5) : PySem.W.alike (enc5 b) (enc5 b') = true := by
  simp [enc5, PySem.W.alike, PySem.W.alikeAll]
theorem enc5_depth (b : Ev5) : (enc5 b).depth ≤ 60 := by
  simp [enc5, PyData.depth, PyData.depthAll]
theorem tp_pair {H : Hp} {v : V} {d1 d2 : PyData} (h : Tp H v (.tuple [d1, d2])) : ∃ a v1 v2, v = .ref a ∧ H a = some (.tup [v1, v2]) ∧ Tp H v1 d1 ∧ Tp H v2 d2 := by
  cases h with
  | tup h1 h2 =>
    cases h2 with
    | cons t1 r =>
      cases r with
      | cons t2 r2 => cases r2; exact ⟨_, _, _, rfl, h1, t1, t2⟩
theorem tp_int {H : Hp} {v : V} {i : Int} (h : Tp H v (.int i)) : v = .int i := by cases h; rfl
theorem tp_str {H : Hp} {v : V} {i : Str} (h : Tp H v (.str i)) : v = .str i := by cases h; rfl
theorem tp_bool {H : Hp} {v : V} {i : Bool} (h : Tp H v (.bool i)) : v = .bl i := by cases h; rfl
theorem tp_tup {H : Hp} {v : V} {ds : List PyData} (h : Tp H v (.tuple ds)) : ∃ a xs, v = .ref a ∧ H a = some (.tup xs) ∧ TpAll H xs ds := by
  cases h with
  | tup h1 h2 => exact ⟨_, _, rfl, h1, h2⟩
theorem tp_ship {H : Hp} {v : V} {s : Int × Int} (h : Tp H v (shD s)) : ∃ a, v = .ref a ∧ H a = some (.tup [.int s.1, .int s.2]) := by
  obtain ⟨a, v1, v2, rfl, h1, t1, t2⟩ := tp_pair h
  rw [tp_int t1, tp_int t2] at h1
  exact ⟨a, rfl, h1⟩
theorem tp_ints : ∀ {H : Hp} {xs : List V} {ns : List Int}, TpAll H xs (ns.map .int) → xs = ns.map V.int := fun h => tpAll_ints h
theorem tp_intsT {H : Hp} {v : V} (ns : List Int) (h : Tp H v (.tuple (ns.map .int))) : ∃ a, v = .ref a ∧ H a = some (.tup (ns.map V.int)) := by
  obtain ⟨a, xs, rfl, h1, h2⟩ := tp_tup h
  rw [tpAll_ints h2] at h1
  exact ⟨a, rfl, h1⟩
theorem tp_ev5 {H : Hp} {v : V} {e : Ev5} (h : Tp H v (enc5 e)) : ∃ a, v = .ref a ∧ H a = some (.tup [.int e.1, .int e.2.1, .int e.2.2.1, .int e.2.2.2.1, .int e.2.2.2.2]) :=
  tp_intsT [e.1, e.2.1, e.2.2.1, e.2.2.2.1, e.2.2.2.2] h
theorem tp_ev4 {H : Hp} {v : V} {e : Ev5} (h : Tp H v (enc4 e)) : ∃ a, v = .ref a ∧ H a = some (.tup [.int e.1, .int e.2.1, .int (-e.2.2.1), .int e.2.2.2.2]) :=
  tp_intsT [e.1, e.2.1, -e.2.2.1, e.2.2.2.2] h
theorem tp_table {H : Hp} {v : V} {h : Int} {ss : List (Int × Int)} (t : Tp H v (tbD h ss)) : ∃ a b xs, v = .ref a ∧ H a = some (.tup [.int h, .ref b]) ∧ H b = some (.tup xs) ∧ TpAll H xs (ss.map shD) := by
  obtain ⟨a, v1, v2, rfl, h1, t1, t2⟩ := tp_pair t
  obtain ⟨b, xs, rfl, h2, t3⟩ := tp_tup t2
  rw [tp_int t1] at h1
  exact ⟨a, b, xs, rfl, h1, h2, t3⟩
theorem tpAll_at {H : Hp} {xs : List V} {α : Type} {l : List α} {enc : α → PyData} (h : TpAll H xs (l.map enc)) {i : Nat} {x : V} (e : xs[i]? = some x) : ∃ s, l[i]? = some s ∧ Tp H x (enc s) := by
  obtain ⟨d, h1, h2⟩ := h.get e
  rw [List.getElem?_map] at h1
  cases e2 : l[i]? with
  | none => rw [e2] at h1; cases h1
  | some s => rw [e2] at h1; cases h1; exact ⟨s, rfl, h2⟩
theorem tpAll_mlen {H : Hp} {xs : List V} {α : Type} {l : List α} {enc : α → PyData} (h : TpAll H xs (l.map enc)) : xs.length = l.length := by rw [h.length, List.length_map]
theorem mapIdx_take {α β : Type} (f : Nat → α → β) (l : List α) {i : Nat} {x : α} (h : l[i]? = some x) : (l.take (i + 1)).mapIdx f = (l.take i).mapIdx f ++ [f i x] := by
  have hi := (List.getElem?_eq_some_iff.mp h).1
  rw [List.take_add_one, h]
  simp only [Option.toList]
  rw [List.mapIdx_append]
  simp [Nat.min_eq_left (Nat.le_of_lt hi)]
section
variable {P : Program} {w : World} {K : PySem.W.Frag} {mg : Str → Option Value} {base : Heap} {f : Addr} {fd : FuncData}
/-- a table: at most 24 ships (or some more), hours as they should be -/
structure TabOk (h : Int) (ss : List (Int × Int)) : Prop where
  h1 : 1 ≤ h
  h2 : h ≤ 1000
  n : ss.length ≤ 24
abbrev spDayEvents : Sp := Pr fun vs H Q _ => ∃ (v : V) (h : Int) (ss : List (Int × Int)), vs = [v] ∧ Tp H v (tbD h ss) ∧ TabOk h ss ∧
  ∀ (p : Addr) (xs : List V) (H' : Hp), H p = none → Kp [] H H' → H' p = some (.lst xs) → TpAll H' xs ((evs h ss).map enc4) → Q (.ref p) H'
theorem ok_day_events (B : Bi mg) (T : TTab mg) (F : FunS K "day_events" "day_events" s_day_events [] [] f fd) (hm : mg "day_events" = some (.ref f)) :
    DefOk P w K mg base "day_events" 1 p_day_events [] spDayEvents := by
  have S := sc_day_events
  refine defOk F hm S (fun _ _ _ _ _ _ us hl => match us, hl with | [_], _ => rfl) (fun vs H Q E h => ?_) (fun cdv A outer s H vs Q E hr h => ?_)
  · obtain ⟨v, h, ss, rfl, _⟩ := h
    rfl
  · obtain ⟨v, h, ss, rfl, ht, ok, k⟩ := h
    refine ⟨_, (pss_cons (ps_asg (pv 0) (pg_tup rfl (pgs_cons (pg_name (i := 1) S.nd rfl (Or.inl rfl)) (pgs_cons (pg_name (i := 2) S.nd rfl (Or.inl rfl)) pgs_nil))))
      (pss_cons (ps_par (i := 3) (j := 4) (by rfl) S.nd rfl rfl (by decide) rfl rfl (pa_cons (pe_lst pa_nil) (pa_cons (pe_lst pa_nil) pa_nil)) (by rfl))
      (pss_cons (ps_for (passes_of rfl) rfl (pi_enumT (by rfl) B.enumerate (pa_cons (pv 2) pa_nil)) (pg_tup rfl (pgs_cons (pg_name (i := 5) S.nd rfl (Or.inl rfl)) (pgs_cons (pg_tup rfl (pgs_cons (pg_name (i := 6) S.nd rfl (Or.inl rfl)) (pgs_cons (pg_name (i := 7) S.nd rfl (Or.inl rfl)) pgs_nil))) pgs_nil)))
      (pss_cons (ps_asg (pe_callB call_divmod (by rfl) B.divmod (by decide +kernel) (pa_cons (pe_op op_add (pv 6) (pv 7)) (pa_cons (pv 1) pa_nil))) (pg_tup rfl (pgs_cons (pg_name (i := 8) S.nd rfl (Or.inl rfl)) (pgs_cons (pg_name (i := 9) S.nd rfl (Or.inl rfl)) pgs_nil))))
      (pss_cons (ps_expr (pe_bm PySem.F.plainAttrs_list PySem.F.slot_list_append PySem.F.type_list_append mt_append (pv 3) (pa_cons (pe_tup (pa_cons (pv 9) (pa_cons (pe_gint (i := 0) (by rfl) T.DEPARTURE) (pa_cons (pe_un un_neg (pv 8)) (pa_cons (pv 6) (pa_cons (pv 5) pa_nil)))))) pa_nil)))
      (pss_one (ps_expr (pe_bm PySem.F.plainAttrs_list PySem.F.slot_list_append PySem.F.type_list_append mt_append (pv 4) (pa_cons (pe_tup (pa_cons (pv 6) (pa_cons (pe_gint (i := 1) (by rfl) T.ARRIVAL) (pa_cons pe_int (pa_cons (pv 6) (pa_cons (pv 5) pa_nil)))))) pa_nil)))))))
      (pss_one (ps_ret (pe_lc (own := [("hour", 6), ("kind", 10), ("negative", 11), ("when", 12), ("ship", 5)]) (g := (gTup K 5 (gCons (gName 6) (gCons (gName 10) (gCons (gName 11) (gCons (gName 12) (gCons (gName 5) gNil))))))) (tt := tYes) (by rfl) S.nd (pi_list (pe_callB (cr_sortD hr.units enc5) (by rfl) B.sorted (by decide +kernel) (pa_cons (pe_op op_cat (pv 3) (pv 4)) pa_nil))) (blkOk_by (own := [("hour", 6), ("kind", 10), ("negative", 11), ("when", 12), ("ship", 5)]) (N := n_day_events) (sc := defScope s_day_events) (by decide +kernel)) (fun _ _ _ _ _ => (pg_tup rfl (pgs_cons (pg_name (i := 6) S.nd rfl (Or.inl rfl)) (pgs_cons (pg_name (i := 10) S.nd rfl (Or.inl rfl)) (pgs_cons (pg_name (i := 11) S.nd rfl (Or.inl rfl)) (pgs_cons (pg_name (i := 12) S.nd rfl (Or.inl rfl)) (pgs_cons (pg_name (i := 5) S.nd rfl (Or.inl rfl)) pgs_nil))))))) (fun _ _ _ _ _ => pts_nil) (fun _ _ _ _ _ => (pe_tup (pa_cons (pv 6) (pa_cons (pv 10) (pa_cons (pe_un un_neg (pv 11)) (pa_cons (pv 5) pa_nil)))))))))))), ?_⟩
    obtain ⟨a, b, xs, rfl, ha, hb, hx⟩ := tp_table ht
    have hl := tpAll_mlen hx
    -- hours, ships = table
    refine ⟨_, rfl, _, _, rfl, SqT.of ha, rfl, _, _, rfl, _, _, rfl, rfl, ?_⟩
    -- departures, arrivals = [], []
    refine ⟨by decide, fun p hp => ⟨by decide, fun q hq => ⟨_, _, rfl, ?_⟩⟩⟩
    have npq : q ≠ p := fun z => by rw [z, upd_same] at hq; cases hq
    have kpq : Kp [] H (upd (upd H p (.lst [])) q (.lst [])) := (Kp.new hp).trans (Kp.new hq)
    -- for ship, (hour, stay) in enumerate(ships)
    refine ⟨_, rfl, b, xs, rfl, sqT_tk kpq.tup hb, for_it (walk_enumT (K := K) (a := b) (xs := xs)) (fun i σ H2 => ∃ (ds as : List V) (o1 o2 o3 o4 o5 : Option V), σ = [some (.ref a), some (.int h), some (.ref b), some (.ref p), some (.ref q), o1, o2, o3, o4, o5, none, none, none] ∧
        H2 p = some (.lst ds) ∧ H2 q = some (.lst as) ∧ Kp [] H H2 ∧ i ≤ ss.length ∧ TpAll H2 ds (((ss.take i).mapIdx (depEv h)).map enc5) ∧ TpAll H2 as (((ss.take i).mapIdx arrEv).map enc5))
      ⟨[], [], none, none, none, none, none, rfl, by rw [upd_ne npq.symm, upd_same], upd_same, kpq, Nat.zero_le _, .nil, .nil⟩ ?_ ?_ ?_⟩
    · rintro i σ H2 _ ⟨ds, as, o1, o2, o3, o4, o5, rfl, h1, h2, kp, _⟩
      exact sqT_tk kp.tup hb
    · rintro i x σ H2 H3 hi ⟨ds, as, o1, o2, o3, o4, o5, rfl, h1, h2, kp, hin, td, ta⟩ ⟨T1, x1, y1, rfl, hT1, rfl, e1, e2⟩
      cases e1
      obtain ⟨s, es, ty⟩ := tpAll_at hx e2
      obtain ⟨c, rfl, hc⟩ := tp_ship ty
      have hc2 : (upd H2 T1 (.tup [.int (i : Nat), .ref c])) c = some (.tup [.int s.1, .int s.2]) := (kp.trans (Kp.new hT1)).tup _ _ hc
      -- the targets
      refine ⟨T1, _, rfl, SqT.of upd_same, rfl, _, _, rfl, _, _, rfl, ⟨c, _, rfl, SqT.of hc2, rfl, _, _, rfl, _, _, rfl, rfl, ?_⟩⟩
      refine ⟨rfl, ?_⟩
      have d1 : ds.length ≤ 24 := by have := tpAll_mlen td; simp at this; have := ok.n; omega
      have d2 : as.length ≤ 24 := by have := tpAll_mlen ta; simp at this; have := ok.n; omega
      -- days_ago, departure = divmod(hour + stay, hours)
      refine ⟨_, rfl, _, rfl, _, _, rfl, rfl, _, rfl, _, _, rfl, ⟨by have := ok.h1; omega, by have := ok.h2; omega⟩, fun e he => ?_⟩
      refine ⟨e, _, rfl, SqT.of upd_same, rfl, _, _, rfl, _, _, rfl, rfl, ?_⟩
      have k3 : Kp [] H2 (upd (upd H2 T1 (.tup [.int (i : Nat), .ref c])) e (.tup [.int ((s.1 + s.2) / h), .int ((s.1 + s.2) % h)])) := (Kp.new hT1).trans (Kp.new he)
      generalize hH3 : (upd (upd H2 T1 (.tup [.int (i : Nat), .ref c])) e (.tup [.int ((s.1 + s.2) / h), .int ((s.1 + s.2) % h)])) = H3 at k3
      have hp3 : H3 p = some (.lst ds) := k3.keep _ _ h1 (by simp)
      have hq3 : H3 q = some (.lst as) := k3.keep _ _ h2 (by simp)
      -- departures.append(..)
      refine ⟨_, rfl, .inl ⟨rfl, _, SqL.of hp3⟩, _, rfl, _, rfl, _, rfl, _, rfl, _, rfl, (show (5:Nat) ≤ sizeLine from by decide), fun t1 ht1 => ?_⟩
      have k4 : Kp [] H3 (upd H3 t1 (.tup [.int ((s.1 + s.2) % h), .int 0, .int (-((s.1 + s.2) / h)), .int s.1, .int (i : Nat)])) := Kp.new ht1
      refine ⟨p, ds, _, rfl, rfl, k4.keep _ _ hp3 (by simp), Nat.lt_of_le_of_lt d1 (by decide), ?_⟩
      have hw : Kp [p] (upd H3 t1 (.tup [.int ((s.1 + s.2) % h), .int 0, .int (-((s.1 + s.2) / h)), .int s.1, .int (i : Nat)])) _ := Kp.wr (o := .lst (ds ++ [.ref t1])) (by simp) (k4.keep _ _ hp3 (by simp)) ⟨fun _ z => (nomatch z), fun _ _ z => (nomatch z)⟩
      generalize hH4 : upd (upd H3 t1 (.tup [.int ((s.1 + s.2) % h), .int 0, .int (-((s.1 + s.2) / h)), .int s.1, .int (i : Nat)])) p (.lst (ds ++ [.ref t1])) = H4 at hw
      have hq4 : H4 q = some (.lst as) := hw.keep _ _ (k4.keep _ _ hq3 (by simp)) (by simp [npq])
      have hp4 : H4 p = some (.lst (ds ++ [.ref t1])) := by rw [← hH4, upd_same]
      have ht4 : H4 t1 = some (.tup [.int ((s.1 + s.2) % h), .int 0, .int (-((s.1 + s.2) / h)), .int s.1, .int (i : Nat)]) := hw.tup _ _ upd_same
      -- arrivals.append(..)
      refine ⟨_, rfl, .inl ⟨rfl, _, SqL.of hq4⟩, _, rfl, _, rfl, _, rfl, (show (5:Nat) ≤ sizeLine from by decide), fun t2 ht2 => ?_⟩
      have k5 : Kp [] H4 (upd H4 t2 (.tup [.int s.1, .int 1, .int 0, .int s.1, .int (i : Nat)])) := Kp.new ht2
      refine ⟨q, as, _, rfl, rfl, k5.keep _ _ hq4 (by simp), Nat.lt_of_le_of_lt d2 (by decide), ?_⟩
      have hw2 : Kp [q] (upd H4 t2 (.tup [.int s.1, .int 1, .int 0, .int s.1, .int (i : Nat)])) _ := Kp.wr (o := .lst (as ++ [.ref t2])) (by simp) (k5.keep _ _ hq4 (by simp)) ⟨fun _ z => (nomatch z), fun _ _ z => (nomatch z)⟩
      have kall : Kp [p, q] H2 (upd (upd H4 t2 (.tup [.int s.1, .int 1, .int 0, .int s.1, .int (i : Nat)])) q (.lst (as ++ [.ref t2]))) :=
        (((((k3.mono (by simp)).trans (k4.mono (by simp))).trans (hw.mono (by simp))).trans (k5.mono (by simp))).trans (hw2.mono (by simp)))
      refine ⟨ds ++ [.ref t1], as ++ [.ref t2], _, _, _, _, _, rfl, hw2.keep _ _ (k5.keep _ _ hp4 (by simp)) (by simp [npq.symm]), upd_same, ?_, ?_, ?_, ?_⟩
      · refine Kp.less ((kp.mono (S' := [p, q]) (by simp)).trans kall) (fun b hb => ?_)
        have hb' : b = p ∨ b = q := by simpa using hb
        rcases hb' with z | z
        · rw [z]; exact .inr hp
        · rw [z]; exact .inr (by rw [upd_ne npq] at hq; exact hq)
      · have := (List.getElem?_eq_some_iff.mp es).1; omega
      · rw [mapIdx_take _ _ es, List.map_append]
        refine TpAll.append (td.kp kall) (.cons (.tup (hw2.tup _ _ (k5.tup _ _ ht4)) ?_) .nil)
        exact .cons (.int _) (.cons (.int _) (.cons (.int _) (.cons (.int _) (.cons (.int _) .nil))))
      · rw [mapIdx_take _ _ es, List.map_append]
        refine TpAll.append (ta.kp kall) (.cons (.tup (hw2.tup _ _ upd_same) ?_) .nil)
        exact .cons (.int _) (.cons (.int _) (.cons (.int _) (.cons (.int _) (.cons (.int _) .nil))))
    · -- return [.. for .. in sorted(departures + arrivals)]
      rintro σ H2 ⟨ds, as, o1, o2, o3, o4, o5, rfl, h1, h2, kp, hin, td, ta⟩
      rw [hl, List.take_length] at td ta
      have d1 : ds.length ≤ 24 := by have := tpAll_mlen td; simp at this; have := ok.n; omega
      have d2 : as.length ≤ 24 := by have := tpAll_mlen ta; simp at this; have := ok.n; omega
      refine ⟨_, rfl, _, rfl, p, q, ds, as, rfl, rfl, h1, h2, Nat.le_trans (Nat.add_le_add d1 d2) (by decide), fun c hc => ?_⟩
      refine ⟨c, ds ++ as, ss.mapIdx (depEv h) ++ ss.mapIdx arrEv, rfl, SqL.of upd_same, ?_, enc5_alike, fun b => ⟨_, _, rfl⟩, enc5_depth, fun ys d hys hyl hd => ?_⟩
      · rw [List.map_append]
        exact (td.append ta).new hc
      · have k3 : Kp [] H2 (upd (upd H2 c (.lst (ds ++ as))) d (.lst ys)) := (Kp.new hc).trans (Kp.new hd)
        have hys3 := hys.new (o := .lst ys) hd
        have hd3 : (upd (upd H2 c (.lst (ds ++ as))) d (.lst ys)) d = some (.lst ys) := upd_same
        generalize (upd (upd H2 c (.lst (ds ++ as))) d (.lst ys)) = H3 at k3 hys3 hd3
        have hyn : ys.length ≤ 48 := by
          rw [hyl, List.length_append, List.length_mapIdx, List.length_mapIdx]
          have := ok.n; omega
        refine ⟨d, rfl, ⟨_, SqL.of hd3⟩, fun L hL => lc_data (walk_list (K := K) (a := d) (xs := ys)) (fun i => match (evs h ss)[i]? with | some e => [enc4 e] | none => []) hL (fun H4 k4 => sqL_kp k4 (by simp) (SqL.of hd3)) ?_ ?_⟩
        · rintro i x H4 H5 hi L1 ⟨rfl, hx4⟩
          obtain ⟨e, he, te⟩ := tpAll_at (l := evs h ss) hys3 hx4
          obtain ⟨a5, rfl, h5⟩ := tp_ev5 (te.kp L1.kp)
          refine ⟨a5, _, rfl, SqT.of h5, rfl, _, _, rfl, _, _, rfl, _, _, rfl, _, _, rfl, _, _, rfl, rfl, ?_⟩
          refine ⟨wipe5 (by decide), ?_⟩
          refine ⟨_, rfl, _, rfl, _, rfl, _, rfl, _, rfl, (show (4:Nat) ≤ sizeLine from by decide), fun u hu => ?_⟩
          refine L1.fin (d := enc4 e) (by omega) hL hi (Kp.new hu) (by rw [he]) (.tup upd_same ?_)
          exact .cons (.int _) (.cons (.int _) (.cons (.int _) (.cons (.int _) .nil)))
        · intro H4 acc k4 hacc _ hT
          refine k L acc H4 (kp.free (k3.free hL)) ((kp.trans k3).trans k4) hacc ?_
          rw [show ys.length = (evs h ss).length from tpAll_mlen hys3, flatMap_one (evs h ss) _ enc4 (fun i x e => by rw [e])] at hT
          exact hT
end
end Ba

set_option maxHeartbeats 400000
namespace Ba
open PySem PySem.Spec PyProof.Rows L2
/-! ### counts and the peak -/
def midM (h : Int) (ss : List (Int × Int)) : Int := (ss.map fun s => (s.1 + s.2) / h).sum
def stepC (here : Int) (e : Ev5) : Int := here + (if e.2.1 = 1 then 1 else -1)
def runC : Int → List Ev5 → List Int
  | _, [] => []
  | here, e :: r => stepC here e :: runC (stepC here e) r
theorem runC_snoc (here : Int) (l : List Ev5) (e : Ev5) : runC here (l ++ [e]) = runC here l ++ [stepC (l.foldl stepC here) e] := by
  induction l generalizing here with
  | nil => rfl
  | cons a l ih => simp only [List.cons_append, runC, List.foldl_cons, ih]
theorem runC_length (here : Int) (l : List Ev5) : (runC here l).length = l.length := by
  induction l generalizing here with
  | nil => rfl
  | cons a l ih => simp only [runC, List.length_cons, ih]
def countsM (h : Int) (ss : List (Int × Int)) : List Int := runC (midM h ss) (evs h ss)
def peakM (h : Int) (ss : List (Int × Int)) : Int := maxI (countsM h ss) 0
theorem evs_length (h : Int) (ss : List (Int × Int)) : (evs h ss).length = 2 * ss.length := by
  unfold evs
  rw [List.length_mergeSort, List.length_append, List.length_mapIdx, List.length_mapIdx]
  omega
theorem sum_snoc {l : List Int} {x : Int} : (l ++ [x]).sum = l.sum + x := by
  rw [List.sum_append]; simp
section
variable {P : Program} {w : World} {K : PySem.W.Frag} {mg : Str → Option Value} {base : Heap} {f : Addr} {fd : FuncData}
abbrev spMid : Sp := Pr fun vs H Q _ => ∃ (v : V) (h : Int) (ss : List (Int × Int)), vs = [v] ∧ Tp H v (tbD h ss) ∧ TabOk h ss ∧ Q (.int (midM h ss)) H
theorem ok_count_at_midnight (F : FunS K "count_at_midnight" "count_at_midnight" s_count_at_midnight [] [] f fd) (hm : mg "count_at_midnight" = some (.ref f)) :
    DefOk P w K mg base "count_at_midnight" 1 p_count_at_midnight [] spMid := by
  have S := sc_count_at_midnight
  refine defOk F hm S (fun _ _ _ _ _ _ us hl => match us, hl with | [_], _ => rfl) (fun vs H Q E h => ?_) (fun cdv A outer s H vs Q E hr h => ?_)
  · obtain ⟨v, h, ss, rfl, _⟩ := h
    rfl
  · obtain ⟨v, h, ss, rfl, ht, ok, k⟩ := h
    refine ⟨_, (pss_cons (ps_asg (pv 0) (pg_tup rfl (pgs_cons (pg_name (i := 1) S.nd rfl (Or.inl rfl)) (pgs_cons (pg_name (i := 2) S.nd rfl (Or.inl rfl)) pgs_nil))))
      (pss_cons (ps_set (i := 3) S.nd rfl (Or.inl rfl) pe_int)
      (pss_cons (ps_for (passes_of rfl) rfl (pi_tup (pv 2)) (pg_tup rfl (pgs_cons (pg_name (i := 4) S.nd rfl (Or.inl rfl)) (pgs_cons (pg_name (i := 5) S.nd rfl (Or.inl rfl)) pgs_nil)))
      (pss_cons (ps_set (i := 6) S.nd rfl (Or.inl rfl) (pe_op op_fdiv (pe_op op_add (pv 4) (pv 5)) (pv 1)))
      (pss_one (ps_aug (i := 3) S.nd rfl (Or.inl rfl) (pv 6) ip_add))))
      (pss_one (ps_ret (pv 3)))))), ?_⟩
    obtain ⟨a, b, xs, rfl, ha, hb, hx⟩ := tp_table ht
    have hl := tpAll_mlen hx
    refine ⟨_, rfl, _, _, rfl, SqT.of ha, rfl, _, _, rfl, _, _, rfl, rfl, ?_⟩
    refine ⟨_, rfl, b, rfl, ⟨xs, SqT.of hb⟩, for_it (walk_tup (K := K) (a := b) (xs := xs)) (fun i σ H2 => ∃ (o1 o2 o3 : Option V), σ = [some (.ref a), some (.int h), some (.ref b), some (.int ((ss.take i).map fun s => (s.1 + s.2) / h).sum), o1, o2, o3] ∧ H2 = H ∧ i ≤ ss.length)
      ⟨none, none, none, rfl, rfl, Nat.zero_le _⟩ (fun i σ H2 _ p => by obtain ⟨_, _, _, _, rfl, _⟩ := p; exact SqT.of hb) ?_ ?_⟩
    · rintro i x σ H2 H3 hi ⟨o1, o2, o3, rfl, rfl, hin⟩ ⟨rfl, hx2⟩
      obtain ⟨s, es, ty⟩ := tpAll_at hx hx2
      obtain ⟨c, rfl, hc⟩ := tp_ship ty
      refine ⟨c, _, rfl, SqT.of hc, rfl, _, _, rfl, _, _, rfl, rfl, ?_⟩
      refine ⟨_, rfl, _, rfl, _, _, rfl, rfl, _, rfl, _, _, rfl, rfl, ⟨by have := ok.h1; omega, by have := ok.h2; omega⟩, ?_⟩
      refine ⟨_, rfl, _, rfl, _, _, rfl, rfl, ?_⟩
      have e : ((ss.take (i + 1)).map fun s => (s.1 + s.2) / h).sum = ((ss.take i).map fun s => (s.1 + s.2) / h).sum + (s.1 + s.2) / h := by
        rw [List.take_add_one, es]
        simp only [Option.toList, List.map_append, List.map_cons, List.map_nil, sum_snoc]
      rw [e]
      exact ⟨_, _, _, rfl, rfl, by omega⟩
    · rintro σ H2 ⟨o1, o2, o3, rfl, rfl, _⟩
      refine ⟨_, rfl, ?_⟩
      rw [hl, List.take_length]
      exact k
abbrev spCounts : Sp := Pr fun vs H Q _ => ∃ (v : V) (h : Int) (ss : List (Int × Int)), vs = [v] ∧ Tp H v (tbD h ss) ∧ TabOk h ss ∧
  ∀ (p : Addr) (H' : Hp), H p = none → Kp [] H H' → H' p = some (.lst ((countsM h ss).map V.int)) → Q (.ref p) H'
theorem ok_counts (T : TTab mg) (D_count_at_midnight : DefOk P w K mg base "count_at_midnight" 1 p_count_at_midnight [] spMid) (D_day_events : DefOk P w K mg base "day_events" 1 p_day_events [] spDayEvents)
    (F : FunS K "counts" "counts" s_counts [] [] f fd) (hm : mg "counts" = some (.ref f)) : DefOk P w K mg base "counts" 2 p_counts [] spCounts := by
  have S := sc_counts
  refine defOk F hm S (fun _ _ _ _ _ _ us hl => match us, hl with | [_], _ => rfl) (fun vs H Q E h => ?_) (fun cdv A outer s H vs Q E hr h => ?_)
  · obtain ⟨v, h, ss, rfl, _⟩ := h
    rfl
  · obtain ⟨v, h, ss, rfl, ht, ok, k⟩ := h
    refine ⟨_, (pss_cons (ps_set (i := 1) S.nd rfl (Or.inl rfl) (pe_fn D_count_at_midnight (hr.mono (by decide)) passLB rfl (pa_cons (pv 0) pa_nil)))
      (pss_cons (ps_set (i := 2) S.nd rfl (Or.inl rfl) (pe_lst pa_nil))
      (pss_cons (ps_for (passes_of rfl) rfl (pi_list (pe_fn D_day_events (hr.mono (by decide)) passLB rfl (pa_cons (pv 0) pa_nil))) (pg_tup rfl (pgs_cons (pg_name (i := 3) S.nd rfl (Or.inl rfl)) (pgs_cons (pg_name (i := 4) S.nd rfl (Or.inl rfl)) (pgs_cons (pg_name (i := 5) S.nd rfl (Or.inl rfl)) (pgs_cons (pg_name (i := 6) S.nd rfl (Or.inl rfl)) pgs_nil)))))
      (pss_cons (ps_aug (i := 1) S.nd rfl (Or.inl rfl) (pe_ifExp (pt_cmpR op_eq (pv 4) (pe_gint (i := 1) (by rfl) T.ARRIVAL) (nomark _)) pe_int (pe_un un_neg pe_int)) ip_add)
      (pss_one (ps_expr (pe_bm PySem.F.plainAttrs_list PySem.F.slot_list_append PySem.F.type_list_append mt_append (pv 2) (pa_cons (pv 1) pa_nil))))))
      (pss_one (ps_ret (pv 2)))))), ?_⟩
    -- here = count_at_midnight(table); found = []
    refine ⟨_, rfl, v, h, ss, rfl, ht, ok, ?_⟩
    refine ⟨(show (0:Nat) ≤ sizeLine from by decide), fun q hq => ?_⟩
    have kq : Kp [] H (upd H q (.lst [])) := Kp.new hq
    have hq1 : (upd H q (.lst [])) q = some (.lst []) := upd_same
    generalize (upd H q (.lst [])) = H1 at kq hq1
    -- for .. in day_events(table)
    refine ⟨_, rfl, v, h, ss, rfl, ht.kp kq, ok, fun p xs H2 np k2 hp hx => ?_⟩
    have hxl := tpAll_mlen hx
    have hq2 : H2 q = some (.lst []) := k2.keep _ _ hq1 (by simp)
    have npq : p ≠ q := fun z => by rw [z, hq1] at np; cases np
    refine ⟨p, rfl, ⟨xs, SqL.of hp⟩, for_it (walk_list (K := K) (a := p) (xs := xs)) (fun i σ H3 => ∃ (o1 o2 o3 o4 : Option V), σ = [some v, some (.int (((evs h ss).take i).foldl stepC (midM h ss))), some (.ref q), o1, o2, o3, o4] ∧ Kp [q] H2 H3 ∧ i ≤ (evs h ss).length ∧
        H3 q = some (.lst ((runC (midM h ss) ((evs h ss).take i)).map V.int)))
      ⟨none, none, none, none, rfl, Kp.refl _, Nat.zero_le _, hq2⟩ (fun i σ H3 _ p => by obtain ⟨_, _, _, _, _, k3, _⟩ := p; exact SqL.of (k3.keep _ _ hp (by simp [npq]))) ?_ ?_⟩
    · rintro i x σ H3 H4 hi ⟨o1, o2, o3, o4, rfl, k3, hin, hq3⟩ ⟨rfl, hx2⟩
      obtain ⟨e, es, ty⟩ := tpAll_at (l := evs h ss) hx hx2
      obtain ⟨c, rfl, hc⟩ := tp_ev4 (ty.kp k3)
      refine ⟨c, _, rfl, SqT.of hc, rfl, _, _, rfl, _, _, rfl, _, _, rfl, _, _, rfl, rfl, ?_⟩
      have hlen : (runC (midM h ss) ((evs h ss).take i)).length ≤ 48 := by
        rw [runC_length, List.length_take]
        have := evs_length h ss
        have := ok.n
        omega
      -- here += 1 if kind == ARRIVAL else -1; found.append(here)
      have fin : ∀ (d : Int), stepC (((evs h ss).take i).foldl stepC (midM h ss)) e = (((evs h ss).take i).foldl stepC (midM h ss)) + d →
          ∃ (o1 o2 o3 o4 : Option V), [some v, some (.int ((((evs h ss).take i).foldl stepC (midM h ss)) + d)), some (.ref q), some (.int e.1), some (.int e.2.1), some (.int (-e.2.2.1)), some (.int e.2.2.2.2)] = [some v, some (.int (((evs h ss).take (i + 1)).foldl stepC (midM h ss))), some (.ref q), o1, o2, o3, o4] ∧
            Kp [q] H2 (upd H4 q (.lst ((runC (midM h ss) ((evs h ss).take i)).map V.int ++ [.int ((((evs h ss).take i).foldl stepC (midM h ss)) + d)]))) ∧ i + 1 ≤ (evs h ss).length ∧
            (upd H4 q (.lst ((runC (midM h ss) ((evs h ss).take i)).map V.int ++ [.int ((((evs h ss).take i).foldl stepC (midM h ss)) + d)]))) q = some (.lst ((runC (midM h ss) ((evs h ss).take (i + 1))).map V.int)) := by
        intro d hd
        have et : (evs h ss).take (i + 1) = (evs h ss).take i ++ [e] := by
          rw [List.take_add_one, es]; rfl
        refine ⟨_, _, _, _, by rw [et, List.foldl_append, List.foldl_cons, List.foldl_nil, hd], k3.trans (Kp.wr (by simp) hq3 ⟨fun _ z => (nomatch z), fun _ _ z => (nomatch z)⟩), (List.getElem?_eq_some_iff.mp es).1, ?_⟩
        rw [upd_same, et, runC_snoc, hd, List.map_append]
        rfl
      refine ⟨_, rfl, _, rfl, rfl, _, rfl, ?_⟩
      by_cases ek : e.2.1 = 1
      · refine iteT' (decide_eq_true (congrArg V.int ek)) ?_
        refine ⟨_, _, rfl, rfl, ?_⟩
        refine ⟨_, rfl, .inl ⟨rfl, _, SqL.of hq3⟩, _, rfl, q, _, _, rfl, rfl, hq3, by rw [List.length_map]; exact Nat.lt_of_le_of_lt hlen (by decide), ?_⟩
        exact fin 1 (by unfold stepC; rw [if_pos ek])
      · refine iteF' (decide_eq_false (fun z => ek (V.int.inj z))) ?_
        refine ⟨_, rfl, _, _, rfl, rfl, ?_⟩
        refine ⟨_, rfl, .inl ⟨rfl, _, SqL.of hq3⟩, _, rfl, q, _, _, rfl, rfl, hq3, by rw [List.length_map]; exact Nat.lt_of_le_of_lt hlen (by decide), ?_⟩
        exact fin (-1) (by unfold stepC; rw [if_neg ek])
    · rintro σ H3 ⟨o1, o2, o3, o4, rfl, k3, _, hq3⟩
      refine ⟨_, rfl, ?_⟩
      rw [hxl, List.take_length] at hq3
      exact k q H3 hq ((((kq.trans k2).mono (S' := [q]) (by simp)).trans k3).less fun b hb => .inr (by rw [show b = q by simpa using hb]; exact hq)) hq3
abbrev spPeakOf : Sp := Pr fun vs H Q _ => ∃ (v : V) (h : Int) (ss : List (Int × Int)), vs = [v] ∧ Tp H v (tbD h ss) ∧ TabOk h ss ∧ ∀ (H' : Hp), Kp [] H H' → Q (.int (peakM h ss)) H'
theorem ok_peak_of (B : Bi mg) (D_counts : DefOk P w K mg base "counts" 2 p_counts [] spCounts) (F : FunS K "peak_of" "peak_of" s_peak_of [] [] f fd) (hm : mg "peak_of" = some (.ref f)) : DefOk P w K mg base "peak_of" 3 p_peak_of [] spPeakOf := by
  have S := sc_peak_of
  refine defOk F hm S (fun _ _ _ _ _ _ us hl => match us, hl with | [_], _ => rfl) (fun vs H Q E h => ?_) (fun cdv A outer s H vs Q E hr h => ?_)
  · obtain ⟨v, h, ss, rfl, _⟩ := h
    rfl
  · obtain ⟨v, h, ss, rfl, ht, ok, k⟩ := h
    refine ⟨_, (pss_one (ps_ret (pe_callBK (cr_maxDef rfl hr.units) (by rfl) B.max (by decide +kernel) (pa_cons (pe_fn D_counts (hr.mono (by decide)) passLB rfl (pa_cons (pv 0) pa_nil)) pa_nil) (pk_cons pe_int pk_nil)))), ?_⟩
    refine ⟨_, rfl, v, h, ss, rfl, ht, ok, fun p H' np kp hp => ?_⟩
    exact ⟨p, countsM h ss, 0, rfl, rfl, SqL.of hp, k H' kp⟩
/-! ### is_table -/
def isShapeD : PyData → Bool
  | .tuple [.int h, .tuple ss] => decide (1 ≤ h) && decide (h ≤ 1000) && decide (ss.length ≤ 24) && ss.all (isShipD h)
  | _ => false
def shOf : PyData → Int × Int
  | .tuple [.int a, .int b] => (a, b)
  | _ => (0, 0)
def tabOf : PyData → Int × List (Int × Int)
  | .tuple [.int h, .tuple ss] => (h, ss.map shOf)
  | _ => (1, [])
def isTableD (d : PyData) : Bool := isShapeD d && decide (peakM (tabOf d).1 (tabOf d).2 ≤ 60)
theorem isShipD_eq {h : Int} {d : PyData} (e : isShipD h d = true) : d = shD (shOf d) ∧ 0 ≤ (shOf d).1 ∧ (shOf d).1 < h ∧ 1 ≤ (shOf d).2 ∧ (shOf d).2 ≤ 10000 := by
  unfold isShipD at e
  split at e
  · rename_i a b
    rw [Bool.and_eq_true] at e
    obtain ⟨e1, e2⟩ := e
    cases a with
    | int i =>
      cases b with
      | int j =>
        simp only [inRangeD, Bool.and_eq_true, decide_eq_true_eq] at e1 e2
        refine ⟨rfl, ?_⟩
        simp only [shOf]
        omega
      | _ => simp [inRangeD] at e2
    | _ => simp [inRangeD] at e1
  · cases e
/-- what a valid shape is -/
structure TabV (h : Int) (ss : List (Int × Int)) : Prop where
  h1 : 1 ≤ h
  h2 : h ≤ 1000
  n : ss.length ≤ 24
  sh : ∀ s ∈ ss, 0 ≤ s.1 ∧ s.1 < h ∧ 1 ≤ s.2 ∧ s.2 ≤ 10000
theorem TabV.ok {h : Int} {ss : List (Int × Int)} (t : TabV h ss) : TabOk h ss := ⟨t.h1, t.h2, t.n⟩
theorem ships_eq {h : Int} : ∀ {ds : List PyData}, ds.all (isShipD h) = true → ds = (ds.map shOf).map shD
  | [], _ => rfl
  | d :: ds, e => by
    rw [List.all_cons, Bool.and_eq_true] at e
    rw [List.map_cons, List.map_cons, ← (isShipD_eq e.1).1, ← ships_eq e.2]
theorem isShapeD_eq {d : PyData} (e : isShapeD d = true) : d = tbD (tabOf d).1 (tabOf d).2 ∧ TabV (tabOf d).1 (tabOf d).2 := by
  unfold isShapeD at e
  split at e
  · rename_i h ss
    simp only [Bool.and_eq_true, decide_eq_true_eq] at e
    obtain ⟨⟨⟨e1, e2⟩, e3⟩, e4⟩ := e
    refine ⟨?_, e1, e2, by simpa [tabOf] using e3, fun s hs => ?_⟩
    · show PyData.tuple [.int h, .tuple ss] = .tuple [.int h, .tuple ((ss.map shOf).map shD)]
      rw [← ships_eq e4]
    · obtain ⟨d, hd, rfl⟩ := List.mem_map.mp (show s ∈ ss.map shOf from hs)
      exact (isShipD_eq (List.all_eq_true.mp e4 d hd)).2
  · cases e
theorem isShapeD_tb {h : Int} {ss : List (Int × Int)} (t : TabV h ss) : isShapeD (tbD h ss) = true := by
  show (decide (1 ≤ h) && decide (h ≤ 1000) && decide ((ss.map shD).length ≤ 24) && (ss.map shD).all (isShipD h)) = true
  simp only [Bool.and_eq_true, decide_eq_true_eq, List.length_map, List.all_map, List.all_eq_true]
  refine ⟨⟨⟨t.h1, t.h2⟩, t.n⟩, fun s hs => ?_⟩
  have := t.sh s hs
  simp only [Function.comp, shD, isShipD, inRangeD, Bool.and_eq_true, decide_eq_true_eq]
  omega
theorem tabOf_tb {h : Int} {ss : List (Int × Int)} : tabOf (tbD h ss) = (h, ss) := by
  show (h, (ss.map shD).map shOf) = (h, ss)
  rw [List.map_map]
  have : (shOf ∘ shD) = (id : Int × Int → Int × Int) := funext fun s => rfl
  rw [this, List.map_id]
abbrev spIsTable (K : PySem.W.Frag) : Sp := Pr fun vs H Q _ => ∃ v, vs = [v] ∧ ((∃ t, TyX K H v (.type t) ∧ kitB t "tuple" = some false ∧ Q (.bl false) H) ∨
  ∃ d, Dp K H v d ∧ (isShapeD d = true → Tp H v d) ∧ ∀ H', Kp [] H H' → Q (.bl (isTableD d)) H')
theorem dpAll_at {H : Hp} {xs : List V} {ds : List PyData} : DpAll K H xs ds → ∀ {i : Nat} {x : V}, xs[i]? = some x → ∃ d, ds[i]? = some d ∧ Dp K H x d
  | .nil, _, _, e => by simp at e
  | .cons h _, 0, _, e => by simp at e; subst e; exact ⟨_, rfl, h⟩
  | .cons _ t, i + 1, _, e => by
    obtain ⟨d, h1, h2⟩ := dpAll_at t (i := i) (by simpa using e)
    exact ⟨d, by simpa using h1, h2⟩
theorem dp_tupE {H : Hp} {v : V} {ds : List PyData} (h : Dp K H v (.tuple ds)) : ∃ a xs, v = .ref a ∧ SqT K H a xs ∧ DpAll K H xs ds := by
  cases h with
  | tup h1 h2 => exact ⟨_, _, rfl, h1, h2⟩
mutual
theorem Dp.ext {H H' : Hp} (k : Kp [] H H') : ∀ (d : PyData) (v : V), Dp K H v d → Dp K H' v d
  | .none, _, h => by cases h; exact .non
  | .bool _, _, h => by cases h; exact .bl _
  | .int _, _, h => by cases h; exact .int _
  | .str _, _, h => by cases h; exact .str _
  | .dict _, _, h => by cases h
  | .list ds, _, h => by
    cases h with
    | lst h1 h2 => exact .lst (sqL_kp k (by simp) h1) (DpAll.ext k ds _ h2)
  | .tuple ds, _, h => by
    cases h with
    | tup h1 h2 =>
      refine .tup ?_ (DpAll.ext k ds _ h2)
      rcases h1 with (h1 | ⟨o, h1⟩) | h1
      · exact .inl (.inl (k.keep _ _ h1 (by simp)))
      · exact .inl (.inr ⟨o, k.keep _ _ h1 (by simp)⟩)
      · exact .inr h1
theorem DpAll.ext {H H' : Hp} (k : Kp [] H H') : ∀ (ds : List PyData) (vs : List V), DpAll K H vs ds → DpAll K H' vs ds
  | [], _, h => by cases h; exact .nil
  | d :: ds, _, h => by
    cases h with
    | cons h1 h2 => exact .cons (Dp.ext k d _ h1) (DpAll.ext k ds _ h2)
end
theorem sqT_ext {H H' : Hp} {a : Addr} {xs : List V} (k : Kp [] H H') (h1 : SqT K H a xs) : SqT K H' a xs := by
  rcases h1 with (h1 | ⟨o, h1⟩) | h1
  · exact .inl (.inl (k.keep _ _ h1 (by simp)))
  · exact .inl (.inr ⟨o, k.keep _ _ h1 (by simp)⟩)
  · exact .inr h1
theorem isShapeD_no1 {ds : List PyData} (h : ∀ a b, ds ≠ [a, b]) : isShapeD (.tuple ds) = false := by
  unfold isShapeD
  split
  · rename_i e; injection e with e; exact absurd e (h _ _)
  · rfl
theorem isShapeD_no2 {d1 d2 : PyData} (h : ∀ i, d1 ≠ .int i) : isShapeD (.tuple [d1, d2]) = false := by
  unfold isShapeD
  split
  · rename_i e; injection e with e; injection e with e1 e2; exact absurd e1 (h _)
  · rfl
theorem isShapeD_no3 {d1 d2 : PyData} (h : ∀ xs, d2 ≠ .tuple xs) : isShapeD (.tuple [d1, d2]) = false := by
  unfold isShapeD
  split
  · rename_i e; injection e with e; injection e with e1 e2; injection e2 with e2; exact absurd e2 (h _)
  · rfl
theorem ok_is_table (B : Bi mg) (T : TTab mg) (D_in_range : DefOk P w K mg base "in_range" 2 p_in_range [] (spInRange K)) (D_is_ship : DefOk P w K mg base "is_ship" 3 p_is_ship [] (spIsShip K)) (D_peak_of : DefOk P w K mg base "peak_of" 3 p_peak_of [] spPeakOf)
    (F : FunS K "is_table" "is_table" s_is_table [] [] f fd) (hm : mg "is_table" = some (.ref f)) : DefOk P w K mg base "is_table" 4 p_is_table [] (spIsTable K) := by
  have S := sc_is_table
  refine defOk F hm S (fun _ _ _ _ _ _ us hl => match us, hl with | [_], _ => rfl) (fun vs H Q E h => ?_) (fun cdv A outer s H vs Q E hr h => ?_)
  · obtain ⟨v, rfl, _⟩ := h
    rfl
  · obtain ⟨v, rfl, h⟩ := h
    refine ⟨_, (pss_cons (ps_if (PW.pt (pw_or (pt_not (pt_val (pe_callB call_isA (by rfl) B.isinstance (by decide +kernel) (pa_cons (pv 0) (pa_cons (pe_bltn (v := .ty "tuple") (by rfl) B.tuple (by decide +kernel) rfl) pa_nil))))) (pw_or (pt_cmpR op_ne (pe_callB call_len_seq (by rfl) B.len (by decide +kernel) (pa_cons (pv 0) pa_nil)) pe_int (nomark _)) (pw_or1 (pt_not (pt_val (pe_fn D_in_range (hr.mono (by decide)) passLB rfl (pa_cons (pe_ix ix_tup (pv 0) pe_int (fun _ _ => rfl)) (pa_cons pe_int (pa_cons (pe_gint (i := 1000) (by rfl) T.MOST_HOURS) pa_nil)))))))))) (pss_one (ps_ret pe_bl)) pss_nil)
      (pss_cons (ps_asg (pv 0) (pg_tup rfl (pgs_cons (pg_name (i := 1) S.nd rfl (Or.inr rfl)) (pgs_cons (pg_name (i := 2) S.nd rfl (Or.inl rfl)) pgs_nil))))
      (pss_cons (ps_if (PW.pt (pw_or (pt_not (pt_val (pe_callB call_isA (by rfl) B.isinstance (by decide +kernel) (pa_cons (pv 2) (pa_cons (pe_bltn (v := .ty "tuple") (by rfl) B.tuple (by decide +kernel) rfl) pa_nil))))) (pw_or (pt_cmpR op_gt (pe_callB call_len_seq (by rfl) B.len (by decide +kernel) (pa_cons (pv 2) pa_nil)) (pe_gint (i := 24) (by rfl) T.MOST_SHIPS) (nomark _)) (pw_or1 (pt_not (pt_val (pe_callB (cr_all rfl) (by rfl) B.all (by decide +kernel) (pa_cons (pe_lc (own := [("ship", 3)]) (g := (gName 3)) (tt := tYes) (by rfl) S.nd (pi_tup (pv 2)) (blkOk_by (own := [("ship", 3)]) (N := n_is_table) (sc := defScope s_is_table) (by decide +kernel)) (fun _ _ _ _ _ => (pg_name (i := 3) S.nd rfl (Or.inl rfl))) (fun _ _ _ _ _ => pts_nil) (fun _ _ _ _ _ => (pe_fn D_is_ship (hr.mono (by decide)) passLB rfl (pa_cons (pv 1) (pa_cons (pv 3) pa_nil))))) pa_nil)))))))) (pss_one (ps_ret pe_bl)) pss_nil)
      (pss_one (ps_ret (pe_cmpR op_le (pe_fn D_peak_of (hr.mono (by decide)) passLB rfl (pa_cons (pv 0) pa_nil)) (pe_gint (i := 60) (by rfl) T.MOST_PEAK) (nomark _))))))), ?_⟩
    rcases h with ⟨t, ty, hk, q⟩ | ⟨d, hd, htp, q⟩
    · refine ⟨_, rfl, v, t, "tuple", false, rfl, ty, hk, false, rfl, ?_⟩
      exact q
    · by_cases ht : ∃ xs, d = .tuple xs
      · obtain ⟨ds, rfl⟩ := ht
        obtain ⟨a, xs, rfl, hs, ha⟩ := dp_tupE hd
        refine ⟨_, rfl, .ref a, "tuple", "tuple", true, rfl, sqT_ty hs, isTup_yes, true, rfl, ?_⟩
        refine ⟨_, rfl, a, xs, rfl, .inr hs, rfl, _, rfl, ?_⟩
        by_cases hl2 : ds.length = 2
        · obtain ⟨d1, d2, v1, v2, rfl, rfl, h1, h2⟩ := dpAll_two ha hl2
          refine iteNS rfl ?_
          refine ⟨_, rfl, a, _, _, v1, rfl, rfl, hs, rfl, ?_⟩
          refine inRange_dp h1 ?_
          refine ⟨_, rfl, ?_⟩
          cases e1 : inRangeD 1 1000 d1 with
          | false =>
            have e : isTableD (.tuple [d1, d2]) = false := by
              unfold isTableD
              cases hs : isShapeD (.tuple [d1, d2]) with
              | false => rfl
              | true =>
                unfold isShapeD at hs
                split at hs
                · rename_i h ss e
                  injection e with e
                  injection e with e _
                  subst e
                  simp only [inRangeD] at e1
                  rw [e1] at hs
                  simp at hs
                · cases hs
            have q' := q H (Kp.refl H)
            rw [e] at q'
            exact q'
          | true =>
            obtain ⟨h, rfl⟩ : ∃ h, d1 = .int h := by
              cases d1 with
              | int i => exact ⟨i, rfl⟩
              | _ => cases e1
            cases h1
            have e1' : 1 ≤ h ∧ h ≤ 1000 := by
              simpa [inRangeD] using e1
            -- hours, ships = value
            refine ⟨_, rfl, a, _, rfl, hs, rfl, _, _, rfl, _, _, rfl, rfl, ?_⟩
            by_cases ht2 : ∃ ss, d2 = .tuple ss
            · obtain ⟨ss, rfl⟩ := ht2
              obtain ⟨b, ys, rfl, hs2, ha2⟩ := dp_tupE h2
              have hyl := dpAll_len ha2
              refine ⟨_, rfl, .ref b, "tuple", "tuple", true, rfl, sqT_ty hs2, isTup_yes, true, rfl, ?_⟩
              refine ⟨_, rfl, b, ys, rfl, .inr hs2, _, _, rfl, rfl, _, rfl, ?_⟩
              by_cases hlen : (24 : Int) < (ys.length : Int)
              · refine iteT' (decide_eq_true hlen) ?_
                have e : isTableD (.tuple [.int h, .tuple ss]) = false := by
                  have : ¬ ss.length ≤ 24 := by omega
                  simp [isTableD, isShapeD, this]
                have q' := q H (Kp.refl H)
                rw [e] at q'
                exact q'
              · refine iteF' (decide_eq_false hlen) ?_
                refine ⟨_, rfl, b, rfl, ⟨ys, hs2⟩, fun L hL => lc_data (walk_tup (K := K) (a := b) (xs := ys)) (fun i => match ss[i]? with | some d => [.bool (isShipD h d)] | none => []) hL (fun H4 k4 => sqT_ext k4 hs2) ?_ ?_⟩
                · rintro i x H4 H5 hi L1 ⟨rfl, hx4⟩
                  obtain ⟨d, he, te⟩ := dpAll_at ha2 hx4
                  refine ⟨wipe1 (by decide), ?_⟩
                  refine ⟨_, rfl, _, rfl, h, x, d, rfl, Dp.ext L1.kp _ _ te, ?_⟩
                  exact L1.fin (d := .bool (isShipD h d)) (by omega) hL hi (Kp.refl _) (by rw [he]) (.bl _)
                · intro H4 acc k4 hacc _ hT
                  rw [hyl, flatMap_one ss _ (fun d => .bool (isShipD h d)) (fun i x e => by rw [e])] at hT
                  rw [show (ss.map fun d => PyData.bool (isShipD h d)) = (ss.map (isShipD h)).map .bool by rw [List.map_map]; rfl] at hT
                  rw [tpAll_bls hT] at hacc
                  refine ⟨L, ss.map (isShipD h), rfl, SqL.of hacc, _, rfl, ?_⟩
                  have eall : (ss.map (isShipD h)).all id = ss.all (isShipD h) := by rw [List.all_map]; rfl
                  rw [eall]
                  cases e4 : ss.all (isShipD h) with
                  | false =>
                    have e : isTableD (.tuple [.int h, .tuple ss]) = false := by
                      simp [isTableD, isShapeD, e4]
                    have q' := q H4 k4
                    rw [e] at q'
                    exact q'
                  | true =>
                    have esh : isShapeD (.tuple [.int h, .tuple ss]) = true := by
                      have : ss.length ≤ 24 := by omega
                      simp [isShapeD, e4, e1', this]
                    obtain ⟨e5, tv⟩ := isShapeD_eq esh
                    have t := htp esh
                    rw [e5] at t
                    refine ⟨_, rfl, _, h, ss.map shOf, rfl, t.kp k4, tv.ok, fun H5 k5 => ?_⟩
                    refine ⟨_, _, rfl, rfl, ?_⟩
                    have q' := q H5 (k4.trans k5)
                    unfold isTableD at q'
                    rw [esh, Bool.true_and] at q'
                    exact q'
            · have hn : ∀ xs, d2 ≠ .tuple xs := fun xs e => ht2 ⟨xs, e⟩
              refine ⟨_, rfl, v2, tyN d2, "tuple", false, rfl, dp_ty h2, isTup_no hn, false, rfl, ?_⟩
              have e : isTableD (.tuple [.int h, d2]) = false := by
                unfold isTableD
                rw [isShapeD_no3 hn, Bool.false_and]
              have q' := q H (Kp.refl H)
              rw [e] at q'
              exact q'
        · have hne : ¬ (V.int (xs.length : Int) = V.int 2) := fun z => by
            injection z with z
            rw [dpAll_len ha] at z
            omega
          refine iteNN hne ?_
          have e : isTableD (.tuple ds) = false := by
            unfold isTableD
            rw [isShapeD_no1 (fun a b z => hl2 (by rw [z]; rfl)), Bool.false_and]
          have q' := q H (Kp.refl H)
          rw [e] at q'
          exact q'
      · have hn : ∀ xs, d ≠ .tuple xs := fun xs e => ht ⟨xs, e⟩
        refine ⟨_, rfl, v, tyN d, "tuple", false, rfl, dp_ty hd, isTup_no hn, false, rfl, ?_⟩
        have e : isTableD d = false := by
          cases d with
          | tuple xs => exact absurd rfl (hn xs)
          | _ => rfl
        have q' := q H (Kp.refl H)
        rw [e] at q'
        exact q'
/-! ### require_table -/
abbrev spReqTable (K : PySem.W.Frag) (CT : Addr) : Sp := Pr fun vs H Q E => ∃ v, vs = [v] ∧ ((∃ t, TyX K H v (.type t) ∧ kitB t "tuple" = some false ∧ E (.ref CT) none H) ∨
  ∃ d, Dp K H v d ∧ (isShapeD d = true → Tp H v d) ∧ ∀ H', Kp [] H H' → if isTableD d = true then Q .non H' else E (.ref CT) none H')
theorem ok_require_table {CT : Addr} (E_NoTable : ExcOk K mg "NoTable" CT) (D_is_table : DefOk P w K mg base "is_table" 4 p_is_table [] (spIsTable K))
    (F : FunS K "require_table" "require_table" s_require_table [] [] f fd) (hm : mg "require_table" = some (.ref f)) : DefOk P w K mg base "require_table" 5 p_require_table [] (spReqTable K CT) := by
  have S := sc_require_table
  refine defOk F hm S (fun _ _ _ _ _ _ us hl => match us, hl with | [_], _ => rfl) (fun vs H Q E h => ?_) (fun cdv A outer s H vs Q E hr h => ?_)
  · obtain ⟨v, rfl, _⟩ := h
    rfl
  · obtain ⟨v, rfl, h⟩ := h
    refine ⟨_, (pss_one (ps_if (pt_not (pt_val (pe_fn D_is_table (hr.mono (by decide)) passLB rfl (pa_cons (pv 0) pa_nil)))) (pss_one (L2N.ps_raise rfl takesB (L2N.pmk_own PySem.F.excBase_ValueError E_NoTable.x E_NoTable.g E_NoTable.k (raises_own E_NoTable.e E_NoTable.t) (by exact rfl)))) pss_nil)), ?_⟩
    rcases h with ⟨t, ty, hk, q⟩ | ⟨d, hd, htp, q⟩
    · exact ⟨_, rfl, v, rfl, .inl ⟨t, ty, hk, _, rfl, q⟩⟩
    · refine ⟨_, rfl, v, rfl, .inr ⟨d, hd, htp, fun H' k => ⟨_, rfl, ?_⟩⟩⟩
      have q' := q H' k
      cases e : isTableD d with
      | false => rw [e] at q'; exact q'
      | true => rw [e] at q'; exact q'
end
end Ba

set_option maxHeartbeats 400000
namespace Ba
open PySem PySem.Spec PyProof.Rows L2
/-! ### policies -/
structure RRun (mg : Str → Option Value) : Prop where
  MOST_BERTH : ∃ t, mg "MOST_BERTH" = some (.int 200 t)
  LEAST : ∃ t, mg "LEAST" = some (.str "least" t)
  LAST : ∃ t, mg "LAST" = some (.str "last" t)
  LONG : ∃ t, mg "LONG" = some (.str "long" t)
inductive Pol where
  | least | last | long (m : Int)
def polD : Pol → PyData
  | .least => .str "least"
  | .last => .str "last"
  | .long m => .tuple [.str "long", .int m]
def isPolicyD (h : Int) (ss : List (Int × Int)) : PyData → Bool
  | .tuple [a, b] => PyData.eqv a (.str "long") && inRangeD (peakM h ss) 200 b
  | .str x => PyData.eqv (.str "least") (.str x) || (PyData.eqv (.str "last") (.str x) || false)
  | _ => false
theorem isPolicyD_len {h : Int} {ss : List (Int × Int)} {ds : List PyData} (hl : ¬ ds.length = 2) : isPolicyD h ss (.tuple ds) = false := by
  match ds, hl with
  | [], _ => rfl
  | [_], _ => rfl
  | [_, _], h2 => exact absurd rfl h2
  | _ :: _ :: _ :: _, _ => rfl
theorem isStr_no {d : PyData} (hd : ∀ xs, d ≠ .str xs) : kitB (tyN d) "str" = some false := by
  cases d with
  | str xs => exact absurd rfl (hd xs)
  | none => exact (show kitB "NoneType" "str" = some false by decide +kernel)
  | bool b => exact (show kitB "bool" "str" = some false by decide +kernel)
  | int i => exact (show kitB "int" "str" = some false by decide +kernel)
  | tuple x => exact (show kitB "tuple" "str" = some false by decide +kernel)
  | list x => exact (show kitB "list" "str" = some false by decide +kernel)
  | dict x => exact (show kitB "dict" "str" = some false by decide +kernel)
section
variable {P : Program} {w : World} {K : PySem.W.Frag} {mg : Str → Option Value} {base : Heap} {f : Addr} {fd : FuncData}
/-- a value that is neither a text nor a tuple, or a plain datum -/
def AnyP (K : PySem.W.Frag) (H : Hp) (v : V) (d : PyData) : Prop := Dp K H v d ∧ d.plain = true ∧ d.depth ≤ 60
def NotST (K : PySem.W.Frag) (H : Hp) (v : V) : Prop := ∃ t, TyX K H v (.type t) ∧ kitB t "str" = some false ∧ kitB t "tuple" = some false
theorem dp_strs {H : Hp} {p : Addr} {xs : List Str} (h : SqT K H p (xs.map V.str)) : Dp K H (.ref p) (.tuple (xs.map .str)) := by
  refine .tup h ?_
  clear h
  induction xs with
  | nil => exact .nil
  | cons x xs ih => exact .cons (.str x) ih
abbrev spValidPolicy (K : PySem.W.Frag) : Sp := Pr fun vs H Q _ => ∃ (tv v : V) (h : Int) (ss : List (Int × Int)), vs = [tv, v] ∧ Tp H tv (tbD h ss) ∧ TabOk h ss ∧
  ((NotST K H v ∧ Q (.bl false) H) ∨ ∃ d, AnyP K H v d ∧ ∀ H', Kp [] H H' → Q (.bl (isPolicyD h ss d)) H')
theorem ok_valid_policy (B : Bi mg) (R : RRun mg) (D_in_range : DefOk P w K mg base "in_range" 2 p_in_range [] (spInRange K)) (D_peak_of : DefOk P w K mg base "peak_of" 3 p_peak_of [] spPeakOf)
    (F : FunS K "valid_policy" "valid_policy" s_valid_policy [] [] f fd) (hm : mg "valid_policy" = some (.ref f)) : DefOk P w K mg base "valid_policy" 4 p_valid_policy [] (spValidPolicy K) := by
  have S := sc_valid_policy
  refine defOk F hm S (fun _ _ _ _ _ _ us hl => match us, hl with | [_, _], _ => rfl) (fun vs H Q E h => ?_) (fun cdv A outer s H vs Q E hr h => ?_)
  · obtain ⟨_, _, h, ss, rfl, _⟩ := h
    rfl
  · obtain ⟨tv, v, h, ss, rfl, ht, ok, h⟩ := h
    refine ⟨_, (pss_cons (ps_if (pt_val (pe_callB call_isA (by rfl) B.isinstance (by decide +kernel) (pa_cons (pv 1) (pa_cons (pe_bltn (v := .ty "str") (by rfl) B.str (by decide +kernel) rfl) pa_nil)))) (pss_one (ps_ret (pe_cmpR (op_inP hr.units) (pv 1) (pe_tup (pa_cons (pe_gstr (z := "least") (by rfl) R.LEAST) (pa_cons (pe_gstr (z := "last") (by rfl) R.LAST) pa_nil))) (by with_unfolding_all rfl)))) pss_nil)
      (pss_cons (ps_if (PW.pt (pw_or (pt_not (pt_val (pe_callB call_isA (by rfl) B.isinstance (by decide +kernel) (pa_cons (pv 1) (pa_cons (pe_bltn (v := .ty "tuple") (by rfl) B.tuple (by decide +kernel) rfl) pa_nil))))) (pw_or (pt_cmpR op_ne (pe_callB call_len_seq (by rfl) B.len (by decide +kernel) (pa_cons (pv 1) pa_nil)) pe_int (nomark _)) (pw_or1 (pt_cmpR (op_neP hr.units) (pe_ix ix_tup (pv 1) pe_int (fun _ _ => rfl)) (pe_gstr (z := "long") (by rfl) R.LONG) (nomark _)))))) (pss_one (ps_ret pe_bl)) pss_nil)
      (pss_one (ps_ret (pe_fn D_in_range (hr.mono (by decide)) passLB rfl (pa_cons (pe_ix ix_tup (pv 1) pe_int (fun _ _ => rfl)) (pa_cons (pe_fn D_peak_of (hr.mono (by decide)) passLB rfl (pa_cons (pv 0) pa_nil)) (pa_cons (pe_gint (i := 200) (by rfl) R.MOST_BERTH) pa_nil)))))))), ?_⟩
    rcases h with ⟨⟨t, ty, h1, h2⟩, q⟩ | ⟨d, ⟨hd, hp, hz⟩, q⟩
    · refine ⟨_, rfl, v, t, "str", false, rfl, ty, h1, ?_⟩
      refine ⟨_, rfl, ?_⟩
      refine ⟨_, rfl, v, t, "tuple", false, rfl, ty, h2, _, rfl, ?_⟩
      exact q
    · by_cases hs : ∃ x, d = .str x
      · obtain ⟨x, rfl⟩ := hs
        cases hd
        refine ⟨_, rfl, .str x, "str", "str", true, rfl, .base (.str x), by decide +kernel, ?_⟩
        refine ⟨_, rfl, ?_⟩
        refine ⟨_, rfl, by decide, fun p hpn => ?_⟩
        refine ⟨.str x, [.str "least", .str "last"], .str x, dp_strs (xs := ["least", "last"]) (SqT.of upd_same), rfl, rfl, Nat.zero_le _, ?_⟩
        exact q _ (Kp.new hpn)
      · have hns : ∀ x, d ≠ .str x := fun x e => hs ⟨x, e⟩
        refine ⟨_, rfl, v, tyN d, "str", false, rfl, dp_ty hd, isStr_no hns, ?_⟩
        by_cases ht2 : ∃ xs, d = .tuple xs
        · obtain ⟨ds, rfl⟩ := ht2
          obtain ⟨a, xs, rfl, hsq, ha⟩ := dp_tupE hd
          refine ⟨_, rfl, ?_⟩
          refine ⟨_, rfl, .ref a, "tuple", "tuple", true, rfl, sqT_ty hsq, isTup_yes, true, rfl, ?_⟩
          refine iteF ?_
          refine ⟨_, rfl, a, xs, rfl, .inr hsq, rfl, _, rfl, ?_⟩
          by_cases h2 : ds.length = 2
          · obtain ⟨d1, d2, v1, v2, rfl, rfl, h1, h2⟩ := dpAll_two ha h2
            refine iteNS rfl ?_
            refine ⟨_, rfl, a, _, _, v1, rfl, rfl, hsq, rfl, ?_⟩
            have hp' : d1.plain = true ∧ d2.plain = true := by simpa [PyData.plain, PyData.plainAll] using hp
            have hz' : d1.depth ≤ 60 := by
              simp only [PyData.depth, PyData.depthAll] at hz
              omega
            refine ⟨d1, .str "long", h1, .str _, hp'.1, rfl, hz', _, rfl, ?_⟩
            cases e : PyData.eqv d1 (.str "long") with
            | false =>
              have : isPolicyD h ss (.tuple [d1, d2]) = false := by simp only [isPolicyD, e, Bool.false_and]
              have q' := q H (Kp.refl H)
              rw [this] at q'
              exact q'
            | true =>
              refine ⟨_, rfl, a, _, _, v2, rfl, rfl, hsq, rfl, ?_⟩
              refine ⟨_, rfl, tv, h, ss, rfl, ht, ok, fun H' k => ?_⟩
              refine inRange_dp (Dp.ext k _ _ h2) ?_
              have q' := q H' k
              have : isPolicyD h ss (.tuple [d1, d2]) = inRangeD (peakM h ss) 200 d2 := by simp only [isPolicyD, e, Bool.true_and]
              rw [this] at q'
              exact q'
          · have hne : ¬ (V.int (xs.length : Int) = V.int 2) := fun z => by
              injection z with z
              rw [dpAll_len ha] at z
              omega
            refine iteNN hne ?_
            have q' := q H (Kp.refl H)
            rw [isPolicyD_len h2] at q'
            exact q'
        · have hn : ∀ xs, d ≠ .tuple xs := fun xs e => ht2 ⟨xs, e⟩
          refine ⟨_, rfl, ?_⟩
          refine ⟨_, rfl, v, tyN d, "tuple", false, rfl, dp_ty hd, isTup_no hn, false, rfl, ?_⟩
          refine iteT ?_
          have : isPolicyD h ss d = false := by
            cases d with
            | tuple xs => exact absurd rfl (hn xs)
            | str x => exact absurd rfl (hns x)
            | _ => rfl
          have q' := q H (Kp.refl H)
          rw [this] at q'
          exact q'
abbrev spReqPolicy (K : PySem.W.Frag) (CP : Addr) : Sp := Pr fun vs H Q E => ∃ (tv v : V) (h : Int) (ss : List (Int × Int)), vs = [tv, v] ∧ Tp H tv (tbD h ss) ∧ TabOk h ss ∧
  ((NotST K H v ∧ E (.ref CP) none H) ∨ ∃ d, AnyP K H v d ∧ ∀ H', Kp [] H H' → if isPolicyD h ss d = true then Q .non H' else E (.ref CP) none H')
theorem ok_require_policy {CP : Addr} (E_NoPolicy : ExcOk K mg "NoPolicy" CP) (D_valid_policy : DefOk P w K mg base "valid_policy" 4 p_valid_policy [] (spValidPolicy K))
    (F : FunS K "require_policy" "require_policy" s_require_policy [] [] f fd) (hm : mg "require_policy" = some (.ref f)) : DefOk P w K mg base "require_policy" 5 p_require_policy [] (spReqPolicy K CP) := by
  have S := sc_require_policy
  refine defOk F hm S (fun _ _ _ _ _ _ us hl => match us, hl with | [_, _], _ => rfl) (fun vs H Q E h => ?_) (fun cdv A outer s H vs Q E hr h => ?_)
  · obtain ⟨_, _, h, ss, rfl, _⟩ := h
    rfl
  · obtain ⟨tv, v, h, ss, rfl, ht, ok, h⟩ := h
    refine ⟨_, (pss_one (ps_if (pt_not (pt_val (pe_fn D_valid_policy (hr.mono (by decide)) passLB rfl (pa_cons (pv 0) (pa_cons (pv 1) pa_nil))))) (pss_one (L2N.ps_raise rfl takesB (L2N.pmk_own PySem.F.excBase_ValueError E_NoPolicy.x E_NoPolicy.g E_NoPolicy.k (raises_own E_NoPolicy.e E_NoPolicy.t) (by exact rfl)))) pss_nil)), ?_⟩
    rcases h with ⟨hn, q⟩ | ⟨d, hd, q⟩
    · exact ⟨_, rfl, _, rfl, tv, v, h, ss, rfl, ht, ok, .inl ⟨hn, _, rfl, q⟩⟩
    · refine ⟨_, rfl, _, rfl, tv, v, h, ss, rfl, ht, ok, .inr ⟨d, hd, fun H' k => ⟨_, rfl, ?_⟩⟩⟩
      have q' := q H' k
      cases e : isPolicyD h ss d with
      | false => rw [e] at q'; exact q'
      | true => rw [e] at q'; exact q'
/-! ### strangers -/
def isStrangerD (h : Int) : PyData → Bool
  | .tuple [a, b] => inRangeD 1 200 a && inRangeD 0 (10 * h) b
  | _ => false
theorem isStrangerD_len {h : Int} {ds : List PyData} (hl : ¬ ds.length = 2) : isStrangerD h (.tuple ds) = false := by
  match ds, hl with
  | [], _ => rfl
  | [_], _ => rfl
  | [_, _], h2 => exact absurd rfl h2
  | _ :: _ :: _ :: _, _ => rfl
abbrev spIsStranger (K : PySem.W.Frag) : Sp := Pr fun vs H Q _ => ∃ (h : Int) (v : V) (d : PyData), vs = [.int h, v] ∧ Dp K H v d ∧ Q (.bl (isStrangerD h d)) H
theorem ok_is_stranger (B : Bi mg) (R : RRun mg) (D_in_range : DefOk P w K mg base "in_range" 2 p_in_range [] (spInRange K)) (F : FunS K "is_stranger" "is_stranger" s_is_stranger [] [] f fd) (hm : mg "is_stranger" = some (.ref f)) :
    DefOk P w K mg base "is_stranger" 3 p_is_stranger [] (spIsStranger K) := by
  have S := sc_is_stranger
  refine defOk F hm S (fun _ _ _ _ _ _ us hl => match us, hl with | [_, _], _ => rfl) (fun vs H Q E h => ?_) (fun cdv A outer s H vs Q E hr h => ?_)
  · obtain ⟨h, v, d, rfl, _⟩ := h
    rfl
  · obtain ⟨h, v, d, rfl, hd, q⟩ := h
    refine ⟨_, (pss_cons (ps_if (PW.pt (pw_or (pt_not (pt_val (pe_callB call_isA (by rfl) B.isinstance (by decide +kernel) (pa_cons (pv 1) (pa_cons (pe_bltn (v := .ty "tuple") (by rfl) B.tuple (by decide +kernel) rfl) pa_nil))))) (pw_or1 (pt_cmpR op_ne (pe_callB call_len_seq (by rfl) B.len (by decide +kernel) (pa_cons (pv 1) pa_nil)) pe_int (nomark _))))) (pss_one (ps_ret pe_bl)) pss_nil)
      (pss_one (ps_ret (pe_and (pe_fn D_in_range (hr.mono (by decide)) passLB rfl (pa_cons (pe_ix ix_tup (pv 1) pe_int (fun _ _ => rfl)) (pa_cons pe_int (pa_cons (pe_gint (i := 200) (by rfl) R.MOST_BERTH) pa_nil)))) (pe_one (pe_fn D_in_range (hr.mono (by decide)) passLB rfl (pa_cons (pe_ix ix_tup (pv 1) pe_int (fun _ _ => rfl)) (pa_cons pe_int (pa_cons (pe_op op_mul pe_int (pv 0)) pa_nil))))))))), ?_⟩
    by_cases ht : ∃ xs, d = .tuple xs
    · obtain ⟨ds, rfl⟩ := ht
      obtain ⟨a, xs, rfl, hs, ha⟩ := dp_tupE hd
      refine ⟨_, rfl, .ref a, "tuple", "tuple", true, rfl, sqT_ty hs, isTup_yes, true, rfl, ?_⟩
      refine iteF ?_
      refine ⟨_, rfl, a, xs, rfl, .inr hs, rfl, _, rfl, ?_⟩
      by_cases h2 : ds.length = 2
      · obtain ⟨d1, d2, v1, v2, rfl, rfl, h1, h2⟩ := dpAll_two ha h2
        · refine iteNS rfl ?_
          refine ⟨_, rfl, ?_⟩
          refine ⟨a, _, _, v1, rfl, rfl, hs, rfl, ?_⟩
          refine inRange_dp h1 ?_
          refine ⟨_, rfl, ?_⟩
          cases e : inRangeD 1 200 d1 with
          | false =>
            have : isStrangerD h (.tuple [d1, d2]) = false := by simp only [isStrangerD, e, Bool.false_and]
            rw [this] at q
            exact q
          | true =>
            have : isStrangerD h (.tuple [d1, d2]) = inRangeD 0 (10 * h) d2 := by simp only [isStrangerD, e, Bool.true_and]
            rw [this] at q
            refine ⟨_, rfl, a, _, _, v2, rfl, rfl, hs, rfl, ?_⟩
            refine ⟨_, rfl, _, _, rfl, rfl, .inl (by decide), ?_⟩
            exact inRange_dp h2 q
      · have hne : ¬ (V.int (xs.length : Int) = V.int 2) := fun z => by
          injection z with z
          rw [dpAll_len ha] at z
          omega
        refine iteNN hne ?_
        rw [isStrangerD_len h2] at q
        exact q
    · have hn : ∀ xs, d ≠ .tuple xs := fun xs e => ht ⟨xs, e⟩
      refine ⟨_, rfl, v, tyN d, "tuple", false, rfl, dp_ty hd, isTup_no hn, false, rfl, ?_⟩
      refine iteT ?_
      have : isStrangerD h d = false := by
        cases d with
        | tuple xs => exact absurd rfl (hn xs)
        | _ => rfl
      rw [this] at q
      exact q
/-! ### require_days -/
abbrev spReqDays (K : PySem.W.Frag) (CD : Addr) : Sp := Pr fun vs H Q E => ∃ (v : V) (lo hi : Int), vs = [v, .int lo, .int hi] ∧ ((NotInt K H v ∧ E (.ref CD) none H) ∨ ∃ i, v = .int i ∧ if (decide (lo ≤ i) && decide (i ≤ hi)) = true then Q .non H else E (.ref CD) none H)
theorem ok_require_days {CD : Addr} (E_NoDays : ExcOk K mg "NoDays" CD) (D_in_range : DefOk P w K mg base "in_range" 2 p_in_range [] (spInRange K))
    (F : FunS K "require_days" "require_days" s_require_days [] [] f fd) (hm : mg "require_days" = some (.ref f)) : DefOk P w K mg base "require_days" 3 p_require_days [] (spReqDays K CD) := by
  have S := sc_require_days
  refine defOk F hm S (fun _ _ _ _ _ _ us hl => match us, hl with | [_, _, _], _ => rfl) (fun vs H Q E h => ?_) (fun cdv A outer s H vs Q E hr h => ?_)
  · obtain ⟨_, _, _, rfl, _⟩ := h
    rfl
  · obtain ⟨v, lo, hi, rfl, h⟩ := h
    refine ⟨_, (pss_one (ps_if (pt_not (pt_val (pe_fn D_in_range (hr.mono (by decide)) passLB rfl (pa_cons (pv 0) (pa_cons (pv 1) (pa_cons (pv 2) pa_nil)))))) (pss_one (L2N.ps_raise rfl takesB (L2N.pmk_own PySem.F.excBase_ValueError E_NoDays.x E_NoDays.g E_NoDays.k (raises_own E_NoDays.e E_NoDays.t) (by exact rfl)))) pss_nil)), ?_⟩
    rcases h with ⟨hn, q⟩ | ⟨i, rfl, q⟩
    · exact ⟨_, rfl, _, rfl, _, rfl, v, lo, hi, rfl, .inr ⟨hn, _, rfl, q⟩⟩
    · refine ⟨_, rfl, _, rfl, _, rfl, .int i, lo, hi, rfl, .inl ⟨i, rfl, _, rfl, ?_⟩⟩
      cases e : (decide (lo ≤ i) && decide (i ≤ hi)) with
      | false => rw [e] at q; exact q
      | true => rw [e] at q; exact q
end
end Ba

set_option maxHeartbeats 400000
namespace Ba
open PySem PySem.Spec PyProof.Rows L2
section
/-- a walk over zip of two tuples -/
theorem walk_zipT {K : PySem.W.Frag} {a b : Addr} {xs ys : List V} : Walk (RZ.ItzT K a b) (min xs.length ys.length) (fun H => SqT K H a xs ∧ SqT K H b ys) (YPair (fun i => xs[i]?) (fun i => ys[i]?)) := by
  refine ⟨fun i _ hi q => ⟨xs, ys, xs[i], ys[i], q.1, q.2, by simp [show i < xs.length by omega], by simp [show i < ys.length by omega]⟩, fun _ q => ⟨xs, ys, q.1, q.2, by omega⟩, fun i H v H' _ q y => ?_⟩
  obtain ⟨T, x, z, h1, h2, h3, h4, h5⟩ := y
  exact ⟨T, x, z, h1, h2, h3, h4 xs q.1, h5 ys q.2⟩
end
/-! ### starts -/
def upB (bs : List (Int × Int)) : Bool := (bs.zip bs.tail).all fun p => decide (p.1.1 < p.2.1)
def Pol.open : Pol → Bool
  | .long _ => false
  | _ => true
def isStartD (h : Int) (pol : Pol) : PyData → Bool
  | .tuple ds => ds.all (isStrangerD h) && ((pol.open || ds.isEmpty) && upB (ds.map shOf))
  | _ => false
theorem isStrangerD_eq {h : Int} {d : PyData} (e : isStrangerD h d = true) : d = shD (shOf d) ∧ 1 ≤ (shOf d).1 ∧ (shOf d).1 ≤ 200 ∧ 0 ≤ (shOf d).2 ∧ (shOf d).2 ≤ 10 * h := by
  unfold isStrangerD at e
  split at e
  · rename_i a b
    rw [Bool.and_eq_true] at e
    obtain ⟨e1, e2⟩ := e
    cases a with
    | int i =>
      cases b with
      | int j =>
        simp only [inRangeD, Bool.and_eq_true, decide_eq_true_eq] at e1 e2
        refine ⟨rfl, ?_⟩
        simp only [shOf]
        omega
      | _ => simp [inRangeD] at e2
    | _ => simp [inRangeD] at e1
  · cases e
theorem strangers_eq {h : Int} : ∀ {ds : List PyData}, ds.all (isStrangerD h) = true → ds = (ds.map shOf).map shD
  | [], _ => rfl
  | d :: ds, e => by
    rw [List.all_cons, Bool.and_eq_true] at e
    rw [List.map_cons, List.map_cons, ← (isStrangerD_eq e.1).1, ← strangers_eq e.2]
section
variable {P : Program} {w : World} {K : PySem.W.Frag} {mg : Str → Option Value} {base : Heap} {f : Addr} {fd : FuncData}
theorem dp_ship {H : Hp} {v : V} {s : Int × Int} (h : Dp K H v (shD s)) : ∃ a, v = .ref a ∧ SqT K H a [.int s.1, .int s.2] := by
  obtain ⟨a, xs, rfl, hs, ha⟩ := dp_tupE h
  cases ha with
  | cons h1 r =>
    cases r with
    | cons h2 r2 => cases r2; cases h1; cases h2; exact ⟨a, rfl, hs⟩
theorem dpAll_mlen {α : Type} {l : List α} {enc : α → PyData} {H : Hp} {xs : List V} (h : DpAll K H xs (l.map enc)) : xs.length = l.length := by rw [dpAll_len h, List.length_map]
theorem dpAll_mat {α : Type} {l : List α} {enc : α → PyData} {H : Hp} {xs : List V} (h : DpAll K H xs (l.map enc)) {i : Nat} {x : V} (e : xs[i]? = some x) : ∃ s, l[i]? = some s ∧ Dp K H x (enc s) := by
  obtain ⟨d, h1, h2⟩ := dpAll_at h e
  rw [List.getElem?_map] at h1
  cases e2 : l[i]? with
  | none => rw [e2] at h1; cases h1
  | some s => rw [e2] at h1; cases h1; exact ⟨s, rfl, h2⟩
abbrev spValidStart (K : PySem.W.Frag) : Sp := Pr fun vs H Q _ => ∃ (tv pw v : V) (h : Int) (ss : List (Int × Int)) (pol : Pol), vs = [tv, pw, v] ∧ Tp H tv (tbD h ss) ∧ TabOk h ss ∧ Tp H pw (polD pol) ∧
  ((∃ t, TyX K H v (.type t) ∧ kitB t "tuple" = some false ∧ Q (.bl false) H) ∨ ∃ d, AnyP K H v d ∧ (∀ ds, d = .tuple ds → ds.length ≤ 1000) ∧ ∀ H', Kp [] H H' → Q (.bl (isStartD h pol d)) H')
theorem polD_plain (p : Pol) : (polD p).plain = true := by cases p <;> rfl
theorem polD_depth (p : Pol) : (polD p).depth ≤ 60 := by cases p <;> simp [polD, PyData.depth, PyData.depthAll]
theorem ok_valid_start (B : Bi mg) (R : RRun mg) (D_is_stranger : DefOk P w K mg base "is_stranger" 3 p_is_stranger [] (spIsStranger K))
    (F : FunS K "valid_start" "valid_start" s_valid_start [] [] f fd) (hm : mg "valid_start" = some (.ref f)) : DefOk P w K mg base "valid_start" 4 p_valid_start [] (spValidStart K) := by
  have S := sc_valid_start
  refine defOk F hm S (fun _ _ _ _ _ _ us hl => match us, hl with | [_, _, _], _ => rfl) (fun vs H Q E h => ?_) (fun cdv A outer s H vs Q E hr h => ?_)
  · obtain ⟨_, _, _, h, ss, pol, rfl, _⟩ := h
    rfl
  · obtain ⟨tv, pw, v, h, ss, pol, rfl, ht, ok, hpol, hh⟩ := h
    refine ⟨_, (pss_cons (ps_if (PW.pt (pw_or (pt_not (pt_val (pe_callB call_isA (by rfl) B.isinstance (by decide +kernel) (pa_cons (pv 2) (pa_cons (pe_bltn (v := .ty "tuple") (by rfl) B.tuple (by decide +kernel) rfl) pa_nil))))) (pw_or1 (pt_not (pt_val (pe_callB (cr_all rfl) (by rfl) B.all (by decide +kernel) (pa_cons (pe_lc (own := [("stranger", 3)]) (g := (gName 3)) (tt := tYes) (by rfl) S.nd (pi_tup (pv 2)) (blkOk_by (own := [("stranger", 3)]) (N := n_valid_start) (sc := defScope s_valid_start) (by decide +kernel)) (fun _ _ _ _ _ => (pg_name (i := 3) S.nd rfl (Or.inl rfl))) (fun _ _ _ _ _ => pts_nil) (fun _ _ _ _ _ => (pe_fn D_is_stranger (hr.mono (by decide)) passLB rfl (pa_cons (pe_ix (show IxR _ (rIxT K) from ix_tup) (pv 0) pe_int (fun _ _ => rfl)) (pa_cons (pv 3) pa_nil))))) pa_nil))))))) (pss_one (ps_ret pe_bl)) pss_nil)
      (pss_cons (ps_if (PW.pt (pw_and (pt_cmpR (op_notInP hr.units) (pv 1) (pe_tup (pa_cons (pe_gstr (z := "least") (by rfl) R.LEAST) (pa_cons (pe_gstr (z := "last") (by rfl) R.LAST) pa_nil))) (by with_unfolding_all rfl)) (pw_and1 (pt_cmpR (op_neP hr.units) (pv 2) (pe_tup pa_nil) (nomark _))))) (pss_one (ps_ret pe_bl)) pss_nil)
      (pss_one (ps_ret (pe_callB (cr_all rfl) (by rfl) B.all (by decide +kernel) (pa_cons (pe_lc (own := [("one", 4), ("other", 5)]) (g := (gTup K 2 (gCons (gName 4) (gCons (gName 5) gNil)))) (tt := tYes) (by rfl) S.nd (RZ.pi_zipA (by rfl) B.zip (pa_cons (pv 2) (pa_cons (pe_slice sl_tupA (pv 2) (po_some pe_int) po_none) pa_nil))) (blkOk_by (own := [("one", 4), ("other", 5)]) (N := n_valid_start) (sc := defScope s_valid_start) (by decide +kernel)) (fun _ _ _ _ _ => (pg_tup rfl (pgs_cons (pg_name (i := 4) S.nd rfl (Or.inl rfl)) (pgs_cons (pg_name (i := 5) S.nd rfl (Or.inl rfl)) pgs_nil)))) (fun _ _ _ _ _ => pts_nil) (fun _ _ _ _ _ => (pe_cmpR op_lt (pe_ix (show IxR _ (rIxT K) from ix_tup) (pv 4) pe_int (fun _ _ => rfl)) (pe_ix (show IxR _ (rIxT K) from ix_tup) (pv 5) pe_int (fun _ _ => rfl)) (nomark _)))) pa_nil)))))), ?_⟩
    rcases hh with ⟨t, ty, h1, q⟩ | ⟨d, ⟨hd, hp, hz⟩, hlen, q⟩
    · refine ⟨_, rfl, v, t, "tuple", false, rfl, ty, h1, _, rfl, ?_⟩
      exact q
    · by_cases ht2 : ∃ xs, d = .tuple xs
      · obtain ⟨ds, rfl⟩ := ht2
        obtain ⟨a, xs, rfl, hsq, ha⟩ := dp_tupE hd
        have hxl := dpAll_len ha
        have hn1 := hlen ds rfl
        obtain ⟨ta, tb, ts, rfl, hta, htb, hts⟩ := tp_table ht
        refine ⟨_, rfl, .ref a, "tuple", "tuple", true, rfl, sqT_ty hsq, isTup_yes, true, rfl, ?_⟩
        refine ⟨_, rfl, a, rfl, ⟨xs, hsq⟩, fun L hL => lc_data (walk_tup (K := K) (a := a) (xs := xs)) (fun i => match ds[i]? with | some d => [.bool (isStrangerD h d)] | none => []) hL (fun H4 k4 => sqT_ext k4 hsq) ?_ ?_⟩
        · rintro i x H4 H5 hi L1 ⟨rfl, hx4⟩
          obtain ⟨d, he, te⟩ := dpAll_at ha hx4
          refine ⟨wipe1 (by decide), ?_⟩
          refine ⟨_, rfl, ta, _, _, _, rfl, rfl, sqT_tk L1.kp.tup hta, rfl, _, rfl, h, x, d, rfl, Dp.ext L1.kp _ _ te, ?_⟩
          exact L1.fin (d := .bool (isStrangerD h d)) (by omega) hL hi (Kp.refl _) (by rw [he]) (.bl _)
        · intro H4 acc k4 hacc _ hT
          rw [hxl, flatMap_one ds _ (fun d => .bool (isStrangerD h d)) (fun i x e => by rw [e])] at hT
          rw [show (ds.map fun d => PyData.bool (isStrangerD h d)) = (ds.map (isStrangerD h)).map .bool by rw [List.map_map]; rfl] at hT
          rw [tpAll_bls hT] at hacc
          refine ⟨L, ds.map (isStrangerD h), rfl, SqL.of hacc, _, rfl, ?_⟩
          have eall : (ds.map (isStrangerD h)).all id = ds.all (isStrangerD h) := by rw [List.all_map]; rfl
          rw [eall]
          cases e4 : ds.all (isStrangerD h) with
          | false =>
            have e : isStartD h pol (.tuple ds) = false := by
              simp only [isStartD, e4, Bool.false_and]
            have q' := q H4 k4
            rw [e] at q'
            exact q'
          | true =>
            have edc : ds = (ds.map shOf).map shD := strangers_eq e4
            have ha' := ha
            rw [edc] at ha'
            have hal := dpAll_mlen ha'
            have emp : PyData.eqv (.tuple ds) (.tuple []) = ds.isEmpty := by cases ds <;> rfl
            have tailE : ∀ {H9 : Hp} {hp : Addr → Prop}, True := fun {_ _} => trivial
            refine ⟨_, rfl, by decide, fun p5 hp5 => ?_⟩
            have k5 : Kp [] H (upd H4 p5 (.tup [.str "least", .str "last"])) := k4.trans (Kp.new hp5)
            have h5 := dp_strs (K := K) (xs := ["least", "last"]) (SqT.of (K := K) (H := upd H4 p5 (.tup [.str "least", .str "last"])) upd_same)
            generalize hH5 : upd H4 p5 (.tup [.str "least", .str "last"]) = H5 at k5 h5
            refine ⟨polD pol, [.str "least", .str "last"], Tp.dp _ _ (hpol.kp k5), h5, polD_plain pol, rfl, polD_depth pol, ?_⟩
            have fin : ∀ (bb : Bool), isStartD h pol (.tuple ds) = bb → ∀ H', Kp [] H5 H' → Q (.bl bb) H' := fun bb e H' k => by rw [← e]; exact q H' (k5.trans k)
            have fin2 : (pol.open || ds.isEmpty) = true → isStartD h pol (.tuple ds) = upB (ds.map shOf) := fun e => by
              show (ds.all (isStrangerD h) && ((pol.open || ds.isEmpty) && upB (ds.map shOf))) = _
              rw [e4, e]; rfl
            have fin3 : (pol.open || ds.isEmpty) = false → isStartD h pol (.tuple ds) = false := fun e => by
              show (ds.all (isStrangerD h) && ((pol.open || ds.isEmpty) && upB (ds.map shOf))) = _
              rw [e4, e]; rfl
            have hsq5 := sqT_ext k5 hsq
            have ha5 := DpAll.ext k5 _ _ ha'
            have hd5 := Dp.ext k5 _ _ hd
            clear hH5 k5 h5 hacc hp5 hT k4
            cases pol
            case' least => have fin2 := fin2 rfl; obtain ⟨H6, hH6, kk⟩ : ∃ H6, H5 = H6 ∧ Kp [] H5 H6 := ⟨_, rfl, Kp.refl _⟩; rw [hH6]; refine ⟨_, rfl, ?_⟩
            case' last => have fin2 := fin2 rfl; obtain ⟨H6, hH6, kk⟩ : ∃ H6, H5 = H6 ∧ Kp [] H5 H6 := ⟨_, rfl, Kp.refl _⟩; rw [hH6]; refine ⟨_, rfl, ?_⟩
            case' long m =>
              refine ⟨_, rfl, ?_⟩
              refine ⟨_, rfl, (show (0:Nat) ≤ sizeLine from by decide), fun p6 hp6 => ?_⟩
              refine ⟨.tuple ds, .tuple [], Dp.ext (Kp.new hp6) _ _ hd5, .tup (SqT.of upd_same) .nil, hp, rfl, hz, _, rfl, ?_⟩
              have kk : Kp [] H5 (upd H5 p6 (.tup [])) := Kp.new hp6
              generalize hH6 : upd H5 p6 (.tup []) = H6 at kk ⊢
              rw [emp]
              cases hde : ds.isEmpty with
              | false => have q' := fin false (fin3 (by rw [hde]; rfl)) H6 kk; exact q'
              | true => ?_
              have fin2 := fin2 (by rw [hde]; rfl)
            all_goals
              have hsq6 := sqT_ext kk hsq5
              have ha6 := DpAll.ext kk _ _ ha5
              refine ⟨_, rfl, _, rfl, 1, rfl, a, xs, rfl, hsq6, fun hw => ?_, fun hw p7 hp7 => ?_⟩
              have hxs : xs.drop 1 = xs := by
                obtain ⟨hw, _⟩ := hw
                have : xs.length = 0 := by
                  rw [show (1 : Int) = ((1 : Nat) : Int) from rfl, HT.sIx_nat] at hw
                  omega
                rw [List.length_eq_zero_iff] at this
                rw [this]; rfl
              have k7 : Kp [] H6 H6 := Kp.refl _
              have hys : SqT K H6 a xs := hsq6
              rotate_left
              have hxs : xs.drop 1 = cutV xs (some 1) none := by
                have hw : xs.length ≠ 0 := fun z => hw (by rw [z]; exact ⟨rfl, rfl⟩)
                unfold cutV
                rw [show HT.sIx xs.length 0 (some 1) = 1 by rw [show (1 : Int) = ((1 : Nat) : Int) from rfl, HT.sIx_nat]; omega, HT.sIx_none]
                exact (List.take_of_length_le (by rw [List.length_drop]; exact Nat.le_refl _)).symm
              have k7 : Kp [] H6 (upd H6 p7 (.tup (cutV xs (some 1) none))) := Kp.new hp7
              have hys : SqT K (upd H6 p7 (.tup (cutV xs (some 1) none))) p7 (cutV xs (some 1) none) := SqT.of upd_same
            all_goals
              have hyl := congrArg List.length hxs
              rw [List.length_drop] at hyl
              have hzl : ((ds.map shOf).zip (ds.map shOf).tail).length = xs.length - 1 := by
                rw [List.length_zip, List.length_tail, List.length_map]; omega
              have ha7 := DpAll.ext k7 _ _ ha6
              refine ⟨a, _, xs, _, rfl, .inr ⟨sqT_ext k7 hsq6, hys, fun D2 hL2 => lc_data (walk_zipT (K := K) (xs := xs)) (fun i => match ((ds.map shOf).zip (ds.map shOf).tail)[i]? with | some p => [.bool (decide (p.1.1 < p.2.1))] | none => []) hL2 (fun H4 k4 => ⟨sqT_ext k4 (sqT_ext k7 hsq6), sqT_ext k4 hys⟩) ?_ ?_⟩⟩
              · rintro i x H8 H9 hi L8 ⟨T1, x1, y1, rfl, hT1, rfl, e1, e2⟩
                have e2 : (xs.drop 1)[i]? = some y1 := by rw [hxs]; exact e2
                rw [List.getElem?_drop] at e2
                obtain ⟨s1, es1, td1⟩ := dpAll_mat ha7 e1
                obtain ⟨s2, es2, td2⟩ := dpAll_mat ha7 e2
                obtain ⟨c1, rfl, hc1⟩ := dp_ship td1
                obtain ⟨c2, rfl, hc2⟩ := dp_ship td2
                have k8 := L8.kp.trans (Kp.new (S := []) (o := .tup [.ref c1, .ref c2]) hT1)
                refine ⟨T1, _, rfl, SqT.of upd_same, rfl, _, _, rfl, _, _, rfl, rfl, ?_⟩
                refine ⟨wipe2 (by decide), ?_⟩
                refine ⟨_, rfl, c1, _, _, _, rfl, rfl, sqT_ext k8 hc1, rfl, _, rfl, c2, _, _, _, rfl, rfl, sqT_ext k8 hc2, rfl, _, _, rfl, rfl, ?_⟩
                refine L8.fin (d := .bool (decide (s1.1 < s2.1))) (by omega) hL2 hi (Kp.new hT1) ?_ (.bl _)
                have : ((ds.map shOf).zip (ds.map shOf).tail)[i]? = some (s1, s2) := by
                  rw [List.getElem?_zip_eq_some]
                  refine ⟨es1, ?_⟩
                  rw [List.getElem?_tail, Nat.add_comm]
                  exact es2
                rw [this]
              · intro H8 acc k8 hacc _ hT
                rw [show min xs.length _ = ((ds.map shOf).zip (ds.map shOf).tail).length by rw [hzl, ← hyl]; omega, flatMap_one ((ds.map shOf).zip (ds.map shOf).tail) _ (fun p => .bool (decide (p.1.1 < p.2.1))) (fun i x e => by rw [e])] at hT
                rw [show (((ds.map shOf).zip (ds.map shOf).tail).map fun p => PyData.bool (decide (p.1.1 < p.2.1))) = (((ds.map shOf).zip (ds.map shOf).tail).map fun p => (decide (p.1.1 < p.2.1))).map .bool by rw [List.map_map]; rfl] at hT
                rw [tpAll_bls hT] at hacc
                refine ⟨D2, (((ds.map shOf).zip (ds.map shOf).tail).map fun p => (decide (p.1.1 < p.2.1))), rfl, SqL.of hacc, ?_⟩
                have q' := fin _ fin2 H8 (kk.trans (k7.trans k8))
                have e9 : (((ds.map shOf).zip (ds.map shOf).tail).map fun p => (decide (p.1.1 < p.2.1))).all id = upB (ds.map shOf) := by rw [List.all_map]; rfl
                rw [e9]
                exact q'
      · have hn : ∀ xs, d ≠ .tuple xs := fun xs e => ht2 ⟨xs, e⟩
        refine ⟨_, rfl, v, tyN d, "tuple", false, rfl, dp_ty hd, isTup_no hn, false, rfl, ?_⟩
        have e : isStartD h pol d = false := by
          cases d with
          | tuple xs => exact absurd rfl (hn xs)
          | _ => rfl
        have q' := q H (Kp.refl H)
        rw [e] at q'
        exact q'
end
end Ba

set_option maxHeartbeats 400000
namespace Ba
open PySem PySem.Spec PyProof.Rows L2
section
variable {P : Program} {w : World} {K : PySem.W.Frag} {mg : Str → Option Value} {base : Heap} {f : Addr} {fd : FuncData}
abbrev spReqStart (K : PySem.W.Frag) (CS : Addr) : Sp := Pr fun vs H Q E => ∃ (tv pw v : V) (h : Int) (ss : List (Int × Int)) (pol : Pol), vs = [tv, pw, v] ∧ Tp H tv (tbD h ss) ∧ TabOk h ss ∧ Tp H pw (polD pol) ∧
  ((∃ t, TyX K H v (.type t) ∧ kitB t "tuple" = some false ∧ E (.ref CS) none H) ∨ ∃ d, AnyP K H v d ∧ (∀ ds, d = .tuple ds → ds.length ≤ 1000) ∧ ∀ H', Kp [] H H' → if isStartD h pol d = true then Q .non H' else E (.ref CS) none H')
theorem ok_require_start {CS : Addr} (E_NoStart : ExcOk K mg "NoStart" CS) (D_valid_start : DefOk P w K mg base "valid_start" 4 p_valid_start [] (spValidStart K))
    (F : FunS K "require_start" "require_start" s_require_start [] [] f fd) (hm : mg "require_start" = some (.ref f)) : DefOk P w K mg base "require_start" 5 p_require_start [] (spReqStart K CS) := by
  have S := sc_require_start
  refine defOk F hm S (fun _ _ _ _ _ _ us hl => match us, hl with | [_, _, _], _ => rfl) (fun vs H Q E h => ?_) (fun cdv A outer s H vs Q E hr h => ?_)
  · obtain ⟨_, _, _, h, ss, pol, rfl, _⟩ := h
    rfl
  · obtain ⟨tv, pw, v, h, ss, pol, rfl, ht, ok, hpol, hh⟩ := h
    refine ⟨_, (pss_one (ps_if (pt_not (pt_val (pe_fn D_valid_start (hr.mono (by decide)) passLB rfl (pa_cons (pv 0) (pa_cons (pv 1) (pa_cons (pv 2) pa_nil)))))) (pss_one (L2N.ps_raise rfl takesB (L2N.pmk_own PySem.F.excBase_ValueError E_NoStart.x E_NoStart.g E_NoStart.k (raises_own E_NoStart.e E_NoStart.t) (by exact rfl)))) pss_nil)), ?_⟩
    rcases hh with ⟨t, ty, h1, q⟩ | ⟨d, hd, hlen, q⟩
    · exact ⟨_, rfl, _, rfl, _, rfl, tv, pw, v, h, ss, pol, rfl, ht, ok, hpol, .inl ⟨t, ty, h1, _, rfl, q⟩⟩
    · refine ⟨_, rfl, _, rfl, _, rfl, tv, pw, v, h, ss, pol, rfl, ht, ok, hpol, .inr ⟨d, hd, hlen, fun H' k => ⟨_, rfl, ?_⟩⟩⟩
      have q' := q H' k
      cases e : isStartD h pol d with
      | false => rw [e] at q'; exact q'
      | true => rw [e] at q'; exact q'
/-! ### the order of the arrivals -/
def ordM (ss : List (Int × Int)) : List (Int × Int) := (ss.mapIdx fun k s => (s.1, (k : Int))).mergeSort (PySem.W.dataLe false shD)
theorem ordM_length (ss : List (Int × Int)) : (ordM ss).length = ss.length := by
  rw [ordM, List.length_mergeSort, List.length_mapIdx]
theorem shD_alike (b b' : Int × Int) : PySem.W.alike (shD b) (shD b') = true := by
  simp [shD, PySem.W.alike, PySem.W.alikeAll]
theorem shD_depth (b : Int × Int) : (shD b).depth ≤ 60 := by
  simp [shD, PyData.depth, PyData.depthAll]
theorem flatMap_idx {α β : Type} (l : List α) (f : Nat → List β) (g : Nat → α → β) (h : ∀ i x, l[i]? = some x → f i = [g i x]) : (List.range l.length).flatMap f = l.mapIdx g := by
  induction l generalizing f g with
  | nil => rfl
  | cons a l ih =>
    rw [List.length_cons, List.range_succ_eq_map, List.flatMap_cons, List.flatMap_map, List.mapIdx_cons, h 0 a rfl]
    show g 0 a :: (List.range l.length).flatMap (fun i => f (i + 1)) = _
    rw [ih (fun i => f (i + 1)) (fun i => g (i + 1)) (fun i x e => h (i + 1) x (by simpa using e))]
theorem map_mapIdx' {α β γ : Type} (f : Nat → α → β) (g : β → γ) (l : List α) : (l.mapIdx fun k s => g (f k s)) = (l.mapIdx f).map g := by
  apply List.ext_getElem?
  intro i
  simp [List.getElem?_mapIdx]
  cases l[i]? <;> rfl
abbrev spArrOrder : Sp := Pr fun vs H Q _ => ∃ (v : V) (h : Int) (ss : List (Int × Int)), vs = [v] ∧ Tp H v (tbD h ss) ∧ TabOk h ss ∧
  ∀ (p : Addr) (H' : Hp), H p = none → Kp [] H H' → H' p = some (.lst ((ordM ss).map fun e => V.int e.2)) → Q (.ref p) H'
theorem ok_arrival_order (B : Bi mg) (F : FunS K "arrival_order" "arrival_order" s_arrival_order [] [] f fd) (hm : mg "arrival_order" = some (.ref f)) :
    DefOk P w K mg base "arrival_order" 1 p_arrival_order [] spArrOrder := by
  have S := sc_arrival_order
  refine defOk F hm S (fun _ _ _ _ _ _ us hl => match us, hl with | [_], _ => rfl) (fun vs H Q E h => ?_) (fun cdv A outer s H vs Q E hr h => ?_)
  · obtain ⟨_, h, ss, rfl, _⟩ := h
    rfl
  · obtain ⟨tv, h, ss, rfl, ht, ok, k⟩ := h
    refine ⟨_, (pss_one (ps_ret (pe_lc (own := [("hour", 1), ("ship", 2)]) (g := (gTup K 2 (gCons (gName 1) (gCons (gName 2) gNil)))) (tt := tYes) (by rfl) S.nd (pi_list (pe_callB (cr_sortD hr.units shD) (by rfl) B.sorted (by decide +kernel) (pa_cons (pe_lc (own := [("ship", 2), ("hour", 1), ("stay", 3)]) (g := (gTup K 2 (gCons (gName 2) (gCons (gTup K 2 (gCons (gName 1) (gCons (gName 3) gNil))) gNil)))) (tt := tYes) (by rfl) S.nd (pi_enumT (by rfl) B.enumerate (pa_cons (pe_ix ix_tup (pv 0) pe_int (fun _ _ => rfl)) pa_nil)) (blkOk_by (own := [("ship", 2), ("hour", 1), ("stay", 3)]) (N := n_arrival_order) (sc := defScope s_arrival_order) (by decide +kernel)) (fun _ _ _ _ _ => (pg_tup rfl (pgs_cons (pg_name (i := 2) S.nd rfl (Or.inl rfl)) (pgs_cons (pg_tup rfl (pgs_cons (pg_name (i := 1) S.nd rfl (Or.inl rfl)) (pgs_cons (pg_name (i := 3) S.nd rfl (Or.inl rfl)) pgs_nil))) pgs_nil)))) (fun _ _ _ _ _ => pts_nil) (fun _ _ _ _ _ => (pe_tup (pa_cons (pv 1) (pa_cons (pv 2) pa_nil))))) pa_nil))) (blkOk_by (own := [("hour", 1), ("ship", 2)]) (N := n_arrival_order) (sc := defScope s_arrival_order) (by decide +kernel)) (fun _ _ _ _ _ => (pg_tup rfl (pgs_cons (pg_name (i := 1) S.nd rfl (Or.inl rfl)) (pgs_cons (pg_name (i := 2) S.nd rfl (Or.inl rfl)) pgs_nil)))) (fun _ _ _ _ _ => pts_nil) (fun _ _ _ _ _ => (pv 2))))), ?_⟩
    obtain ⟨ta, b, xs, rfl, hta, hb, hx⟩ := tp_table ht
    have hxl := tpAll_mlen hx
    have hn := ok.n
    refine ⟨_, rfl, ta, _, _, _, rfl, rfl, SqT.of hta, rfl, b, xs, rfl, SqT.of hb, fun D1 hD1 => lc_data (walk_enumT (K := K) (a := b) (xs := xs)) (fun i => match ss[i]? with | some s => [shD (s.1, (i : Int))] | none => []) hD1 (fun H4 k4 => sqT_tk k4.tup hb) ?_ ?_⟩
    · rintro i x H4 H5 hi L ⟨T1, x1, y1, rfl, hT1, rfl, e1, e2⟩
      cases e1
      obtain ⟨s, es, ty⟩ := tpAll_at hx e2
      obtain ⟨c, rfl, hc⟩ := tp_ship ty
      have k5 : Kp [] H4 (upd H4 T1 (.tup [.int (i : Nat), .ref c])) := Kp.new hT1
      have hc2 := (L.kp.trans k5).tup _ _ hc
      refine ⟨T1, _, rfl, SqT.of upd_same, rfl, _, _, rfl, _, _, rfl, ⟨c, _, rfl, SqT.of hc2, rfl, _, _, rfl, _, _, rfl, rfl, ?_⟩⟩
      refine ⟨rfl, ?_⟩
      refine ⟨wipe3 (by decide), ?_⟩
      refine ⟨_, rfl, _, rfl, (show (2:Nat) ≤ sizeLine from by decide), fun t ht => ?_⟩
      refine L.fin (d := shD (s.1, (i : Int))) (by omega) hD1 hi (k5.trans (Kp.new ht)) (by rw [es]) (.tup upd_same (.cons (.int _) (.cons (.int _) .nil)))
    · intro H4 acc k4 hacc _ hT
      rw [hxl, flatMap_idx ss _ (fun k s => shD (s.1, (k : Int))) (fun i x e => by rw [e])] at hT
      rw [show (ss.mapIdx fun k s => shD (s.1, (k : Int))) = (ss.mapIdx fun k s => (s.1, (k : Int))).map shD from map_mapIdx' _ _ _] at hT
      refine ⟨D1, acc, _, rfl, SqL.of hacc, hT, shD_alike, fun b => ⟨_, _, rfl⟩, shD_depth, fun ys p hys hyl hp => ?_⟩
      have hyl2 : ys.length = ss.length := by rw [hyl, List.length_mapIdx]
      have k6 : Kp [] H4 (upd H4 p (.lst ys)) := Kp.new hp
      have hys6 := hys.kp k6
      refine ⟨p, rfl, ⟨ys, SqL.of upd_same⟩, fun D2 hD2 => lc_data (walk_list (K := K) (a := p) (xs := ys)) (fun i => match (ordM ss)[i]? with | some e => [.int e.2] | none => []) hD2 (fun H7 k7 => SqL.of (k7.keep _ _ upd_same (by simp))) ?_ ?_⟩
      · rintro i x H7 H8 hi L ⟨rfl, hx7⟩
        obtain ⟨e, es, ty⟩ := tpAll_at (hys6.kp L.kp) hx7
        obtain ⟨c, rfl, hc⟩ := tp_ship ty
        refine ⟨c, _, rfl, SqT.of hc, rfl, _, _, rfl, _, _, rfl, rfl, ?_⟩
        refine ⟨wipe2 (by decide), ?_⟩
        refine ⟨_, rfl, ?_⟩
        exact L.fin (d := .int e.2) (by omega) hD2 hi (Kp.refl _) (by rw [show (ordM ss)[i]? = some e from es]) (.int _)
      · intro H7 acc7 k7 hacc7 _ hT7
        rw [show ys.length = (ordM ss).length by rw [ordM_length, hyl2], flatMap_one (ordM ss) _ (fun e => .int e.2) (fun i x e => by rw [e])] at hT7
        rw [show ((ordM ss).map fun e => PyData.int e.2) = ((ordM ss).map (·.2)).map .int by rw [List.map_map]; rfl] at hT7
        have := tpAll_ints hT7
        rw [List.map_map] at this
        have hk : Kp [] H H7 := (k4.trans k6).trans k7
        refine k D2 H7 ((k4.trans k6).free hD2) hk ?_
        rw [hacc7, this]
        rfl
end
end Ba

set_option maxHeartbeats 400000
namespace Ba
open PySem PySem.Spec PyProof.Rows L2
/-! ### docks: the mirror -/
/-- (berth, until, arrival, ship) -/
abbrev St4 := Int × Int × Int × Int
def stD (s : St4) : PyData := .tuple [.int s.2.1, .tuple [.int s.2.2.1, .int s.2.2.2]]
structure Dk where
  h : Int
  ss : List (Int × Int)
  pol : Pol
  day : Int
  stays : List St4
  vac : List Int
  used : List Int
structure DA where
  p : Addr
  dx : Addr
  sd : Addr
  vd : Addr
  ud : Addr
def DA.foot (a : DA) : List Addr := [a.p, a.sd, a.vd, a.ud]
structure DockC (K : PySem.W.Frag) (CD : Addr) : Prop where
  cls : Cls K CD
  table : NoAttr K CD "table"
  policy : NoAttr K CD "policy"
  today : NoAttr K CD "today"
  stays : NoAttr K CD "stays"
  vacated : NoAttr K CD "vacated"
  used : NoAttr K CD "used"
def dkF (tv pv : V) (day : Int) (a : DA) : List (Str × V) := [("table", tv), ("policy", pv), ("today", .int day), ("stays", .ref a.sd), ("vacated", .ref a.vd), ("used", .ref a.ud)]
structure DockAt (CD : Addr) (H : Hp) (a : DA) (D : Dk) : Prop where
  ex : ∃ tv pv skvs ukvs, H a.p = some (.ins CD a.dx (dkF tv pv D.day a)) ∧ Tp H tv (tbD D.h D.ss) ∧ Tp H pv (polD D.pol) ∧ H a.sd = some (.dK skvs) ∧ DvAt H (·.1) stD skvs D.stays ∧
    H a.vd = some (.lst (D.vac.map V.int)) ∧ H a.ud = some (.dK ukvs) ∧ KeysAt ukvs D.used
  su : a.sd ≠ a.ud
theorem DockAt.kp {CD : Addr} {H H' : Hp} {a : DA} {D : Dk} {S : List Addr} (d : DockAt CD H a D) (k : Kp S H H') (n : ∀ x ∈ a.foot, x ∉ S) : DockAt CD H' a D := by
  obtain ⟨⟨tv, pv, skvs, ukvs, h1, h2, h3, h4, h5, h6, h7, h8⟩, su⟩ := d
  exact ⟨⟨tv, pv, skvs, ukvs, k.keep _ _ h1 (n _ (by simp [DA.foot])), h2.kp k, h3.kp k, k.keep _ _ h4 (n _ (by simp [DA.foot])), h5.tk k.tup, k.keep _ _ h6 (n _ (by simp [DA.foot])), k.keep _ _ h7 (n _ (by simp [DA.foot])), h8⟩, su⟩
def st0 (s : Int × Int) : St4 := (s.1, s.2, -1, s.1)
def vac0 : Pol → List Int
  | .long m => (List.range m.toNat).map fun (i : Nat) => (i : Int) + 1
  | _ => []
def dk0 (h : Int) (ss : List (Int × Int)) (pol : Pol) (bs : List (Int × Int)) : Dk := ⟨h, ss, pol, 0, bs.map st0, vac0 pol, bs.map (·.1)⟩
section
variable {P : Program} {w : World} {K : PySem.W.Frag} {mg : Str → Option Value} {base : Heap} {f : Addr} {fd : FuncData}
/-- strangers as a tuple of any kind -/
def StrS (K : PySem.W.Frag) (H : Hp) (v : V) (bs : List (Int × Int)) : Prop := ∃ sa xs, v = .ref sa ∧ SqT K H sa xs ∧ TpAll H xs (bs.map shD)
theorem StrS.kp {H H' : Hp} {v : V} {bs : List (Int × Int)} {S : List Addr} (s : StrS K H v bs) (k : Kp S H H') : StrS K H' v bs := by
  obtain ⟨sa, xs, e, h1, h2⟩ := s
  exact ⟨sa, xs, e, sqT_kp k h1, h2.kp k⟩
abbrev spDockInit (K : PySem.W.Frag) (CD : Addr) : Sp := Pr fun vs H Q _ => ∃ (p dx : Addr) (tv pw sv : V) (h : Int) (ss : List (Int × Int)) (pol : Pol) (bs : List (Int × Int)), vs = [.ref p, tv, pw, sv] ∧ H p = some (.ins CD dx []) ∧ Tp H tv (tbD h ss) ∧ Tp H pw (polD pol) ∧
  StrS K H sv bs ∧ bs.length ≤ 1000 ∧ (bs.map (·.1)).Nodup ∧ (∀ m, pol = .long m → 0 ≤ m ∧ m ≤ 200) ∧
  ∀ sd vd ud H', H sd = none → H vd = none → H ud = none → Kp [p] H H' → DockAt CD H' ⟨p, dx, sd, vd, ud⟩ (dk0 h ss pol bs) → Q .non H'
theorem ok_Dock_init {CD : Addr} (c : DockC K CD) (B : Bi mg) (R : RRun mg) (F : FunS K "__init__" "Dock.__init__" s_Dock_init [] [] f fd) :
    FnOk P w K mg base (L2N.CX P w) 1 f fd p_Dock_init (spDockInit K CD) := by
  have S := sc_Dock_init
  refine F.ok S (fun vs H Q E h => ?_) (fun cdv A outer s H vs Q E hr h => ?_)
  · obtain ⟨p, dx, tv, pw, sv, h, ss, pol, bs, rfl, _⟩ := h
    rfl
  · obtain ⟨p, dx, tv, pw, sv, h, ss, pol, bs, rfl, hp, ht, hpol, hs, hn, nd, hm, q⟩ := h
    refine ⟨_, (pss_cons (ps_fld (pv 0) (pv 1) rfl)
      (pss_cons (ps_fld (pv 0) (pv 2) rfl)
      (pss_cons (ps_fld (pv 0) pe_int rfl)
      (pss_cons (ps_fld (pv 0) (pe_dc (own := [("berth", 4), ("until", 5)]) (g := (gTup K 2 (gCons (gName 4) (gCons (gName 5) gNil)))) (tt := tYes) (by rfl) S.nd (pi_tup (pv 3)) (blkOk_by (own := [("berth", 4), ("until", 5)]) (N := n_Dock_init) (sc := defScope s_Dock_init) (by decide +kernel)) (fun _ _ _ _ _ => (pg_tup rfl (pgs_cons (pg_name (i := 4) S.nd rfl (Or.inl rfl)) (pgs_cons (pg_name (i := 5) S.nd rfl (Or.inl rfl)) pgs_nil)))) (fun _ _ _ _ _ => pts_nil) (fun _ _ _ _ _ => (pv 4)) (fun _ _ _ _ _ => (pe_tup (pa_cons (pv 5) (pa_cons (pe_tup (pa_cons (pe_un un_neg pe_int) (pa_cons (pv 4) pa_nil))) pa_nil))))) rfl)
      (pss_cons (ps_fld (pv 0) (pe_lst pa_nil) rfl)
      (pss_cons (ps_fld (pv 0) (pe_dc (own := [("berth", 4), ("until", 5)]) (g := (gTup K 2 (gCons (gName 4) (gCons (gName 5) gNil)))) (tt := tYes) (by rfl) S.nd (pi_tup (pv 3)) (blkOk_by (own := [("berth", 4), ("until", 5)]) (N := n_Dock_init) (sc := defScope s_Dock_init) (by decide +kernel)) (fun _ _ _ _ _ => (pg_tup rfl (pgs_cons (pg_name (i := 4) S.nd rfl (Or.inl rfl)) (pgs_cons (pg_name (i := 5) S.nd rfl (Or.inl rfl)) pgs_nil)))) (fun _ _ _ _ _ => pts_nil) (fun _ _ _ _ _ => (pv 4)) (fun _ _ _ _ _ => pe_bl)) rfl)
      (pss_one (ps_if (pt_cmpR (op_notInP hr.units) (pv 2) (pe_tup (pa_cons (pe_gstr (z := "least") (by rfl) R.LEAST) (pa_cons (pe_gstr (z := "last") (by rfl) R.LAST) pa_nil))) (by with_unfolding_all rfl)) (pss_one (ps_fld (pv 0) (pe_listRg rfl (by rfl) B.list (prg_2 (by rfl) B.range pe_int (pe_op op_add (pe_ix ix_tup (pv 2) pe_int (fun _ _ => rfl)) pe_int))) rfl)) pss_nil)))))))), ?_⟩
    obtain ⟨sa, xs, rfl, hsa, hx⟩ := hs
    have hxl := tpAll_mlen hx
    refine ⟨_, rfl, _, rfl, p, CD, dx, _, rfl, hp, c.cls, c.table, (show (0:Nat) < 1000 from by decide), ?_⟩
    have e1 : (upd H p (.ins CD dx (putF "table" tv []))) p = some (.ins CD dx [("table", tv)]) := upd_same
    have k1 : Kp [p] H (upd H p (.ins CD dx (putF "table" tv []))) := (Kp.refl H).put (by simp) hp ins_nt
    generalize upd H p (.ins CD dx (putF "table" tv [])) = H1 at e1 k1 ⊢
    refine ⟨_, rfl, _, rfl, p, CD, dx, _, rfl, e1, c.cls, c.policy, (show (1:Nat) < 1000 from by decide), ?_⟩
    have e2 : (upd H1 p (.ins CD dx (putF "policy" pw [("table", tv)]))) p = some (.ins CD dx [("table", tv), ("policy", pw)]) := upd_same
    have k2 : Kp [p] H (upd H1 p (.ins CD dx (putF "policy" pw [("table", tv)]))) := k1.put (by simp) e1 ins_nt
    generalize upd H1 p (.ins CD dx (putF "policy" pw [("table", tv)])) = H2 at e2 k2 ⊢
    refine ⟨_, rfl, p, CD, dx, _, rfl, e2, c.cls, c.today, (show (2:Nat) < 1000 from by decide), ?_⟩
    have e3 : (upd H2 p (.ins CD dx (putF "today" (.int 0) [("table", tv), ("policy", pw)]))) p = some (.ins CD dx [("table", tv), ("policy", pw), ("today", .int 0)]) := upd_same
    have k3 : Kp [p] H (upd H2 p (.ins CD dx (putF "today" (.int 0) [("table", tv), ("policy", pw)]))) := k2.put (by simp) e2 ins_nt
    generalize upd H2 p (.ins CD dx (putF "today" (.int 0) [("table", tv), ("policy", pw)])) = H3 at e3 k3 ⊢
    -- the stays
    refine ⟨_, rfl, sa, rfl, ⟨xs, sqT_kp k3 hsa⟩, fun sd hsd => dc_data (K := K) (a := sa) (xs := xs) (fun i H kvs => DvAt H (·.1) stD kvs ((bs.take i).map st0)) hsd (sqT_kp k3 hsa) .nil (fun H4 k4 => sqT_kp k4 (sqT_kp k3 hsa)) ?_ ?_⟩
    · intro i x H4 hx4 L
      obtain ⟨b, eb, tb⟩ := tpAll_at (hx.kp (k3.trans (L.kp.mono (by simp)))) hx4
      obtain ⟨c, rfl, hc⟩ := tp_ship tb
      have hi := (List.getElem?_eq_some_iff.mp hx4).1
      refine ⟨c, _, rfl, SqT.of hc, rfl, _, _, rfl, _, _, rfl, rfl, ?_⟩
      refine ⟨wipe2 (by decide), ?_⟩
      refine ⟨_, rfl, _, rfl, _, rfl, _, rfl, (show (2:Nat) ≤ sizeLine from by decide), fun t1 ht1 => ⟨(show (2:Nat) ≤ sizeLine from by decide), fun t2 ht2 => ?_⟩⟩
      refine L.fin (k := .inl b.1) hsd (by omega) ((Kp.new ht1).trans (Kp.new ht2)) rfl fun kvs H6 hR tk => ?_
      rw [List.take_add_one, eb, List.map_append]
      refine DvAt.put (s := st0 b) (hR.tk ((TK.new ht1).trans ((TK.new ht2).trans tk))) ?_ ?_
      · rw [List.any_eq_false]
        intro y hy
        obtain ⟨b2, hb2, rfl⟩ := List.mem_map.mp hy
        intro e
        exact nd_take (·.1) nd eb b2 hb2 (of_decide_eq_true e)
      · refine .tup (tk _ _ upd_same) (.cons (.int _) (.cons (.tup (tk _ _ (TK.new ht2 _ _ upd_same)) (.cons (.int _) (.cons (.int _) .nil))) .nil))
    · intro H4 skvs k4' hsd4 hR
      rw [hxl, List.take_length] at hR
      have k4 : Kp [p] H H4 := k3.trans (k4'.mono (by simp))
      have e4 : H4 p = some (.ins CD dx [("table", tv), ("policy", pw), ("today", .int 0)]) := k4'.keep _ _ e3 (by simp)
      refine ⟨_, rfl, p, CD, dx, _, rfl, e4, c.cls, c.stays, (show (3:Nat) < 1000 from by decide), ?_⟩
      have e5 : (upd H4 p (.ins CD dx (putF "stays" (.ref sd) [("table", tv), ("policy", pw), ("today", .int 0)]))) p = some (.ins CD dx [("table", tv), ("policy", pw), ("today", .int 0), ("stays", .ref sd)]) := upd_same
      have k5 : Kp [p] H (upd H4 p (.ins CD dx (putF "stays" (.ref sd) [("table", tv), ("policy", pw), ("today", .int 0)]))) := k4.put (by simp) e4 ins_nt
      have hsp : sd ≠ p := fun z => by rw [z, e3] at hsd; cases hsd
      have s5 : (upd H4 p (.ins CD dx (putF "stays" (.ref sd) [("table", tv), ("policy", pw), ("today", .int 0)]))) sd = some (.dK skvs) := by rw [upd_ne hsp]; exact hsd4
      have hR5 : DvAt _ _ _ _ _ := hR.tk (Kp.wr (S := [p]) (o := .ins CD dx (putF "stays" (.ref sd) [("table", tv), ("policy", pw), ("today", .int 0)])) (by simp) e4 ins_nt).tup
      generalize upd H4 p (.ins CD dx (putF "stays" (.ref sd) [("table", tv), ("policy", pw), ("today", .int 0)])) = H5 at e5 k5 s5 hR5 ⊢
      -- vacated
      refine ⟨(show (0:Nat) ≤ sizeLine from by decide), fun vd hvd => ?_⟩
      have hvp : vd ≠ p := fun z => by rw [z, e5] at hvd; cases hvd
      have hvs : vd ≠ sd := fun z => by rw [z, s5] at hvd; cases hvd
      refine ⟨_, rfl, p, CD, dx, _, rfl, (show upd H5 vd (.lst []) p = _ from (upd_ne hvp.symm).trans e5), c.cls, c.vacated, (show (4:Nat) < 1000 from by decide), ?_⟩
      have e6 : (upd (upd H5 vd (.lst [])) p (.ins CD dx (putF "vacated" (.ref vd) [("table", tv), ("policy", pw), ("today", .int 0), ("stays", .ref sd)]))) p = some (.ins CD dx [("table", tv), ("policy", pw), ("today", .int 0), ("stays", .ref sd), ("vacated", .ref vd)]) := upd_same
      have k56 : Kp [p] H5 (upd (upd H5 vd (.lst [])) p (.ins CD dx (putF "vacated" (.ref vd) [("table", tv), ("policy", pw), ("today", .int 0), ("stays", .ref sd)]))) := (Kp.new hvd).put (by simp) (by rw [upd_ne hvp.symm]; exact e5) ins_nt
      have v6 : (upd (upd H5 vd (.lst [])) p (.ins CD dx (putF "vacated" (.ref vd) [("table", tv), ("policy", pw), ("today", .int 0), ("stays", .ref sd)]))) vd = some (.lst []) := by rw [upd_ne hvp, upd_same]
      generalize upd (upd H5 vd (.lst [])) p (.ins CD dx (putF "vacated" (.ref vd) [("table", tv), ("policy", pw), ("today", .int 0), ("stays", .ref sd)])) = H6 at e6 k56 v6 ⊢
      have k6 := k5.trans k56
      have s6 := k56.keep _ _ s5 (by simp [hsp])
      have hR6 := hR5.tk k56.tup
      -- used
      refine ⟨_, rfl, sa, rfl, ⟨xs, sqT_kp k6 hsa⟩, fun ud hud => dc_data (K := K) (a := sa) (xs := xs) (fun i H kvs => KeysAt kvs ((bs.take i).map (·.1))) hud (sqT_kp k6 hsa) ⟨rfl⟩ (fun H4 k4 => sqT_kp k4 (sqT_kp k6 hsa)) ?_ ?_⟩
      · intro i x H7 hx7 L
        obtain ⟨b, eb, tb⟩ := tpAll_at (hx.kp (k6.trans (L.kp.mono (by simp)))) hx7
        obtain ⟨c, rfl, hc⟩ := tp_ship tb
        have hi := (List.getElem?_eq_some_iff.mp hx7).1
        refine ⟨c, _, rfl, SqT.of hc, rfl, _, _, rfl, _, _, rfl, rfl, ?_⟩
        refine ⟨wipe2 (by decide), ?_⟩
        refine ⟨_, rfl, ?_⟩
        refine L.fin (k := .inl b.1) hud (by omega) (Kp.refl _) rfl fun kvs H6 hR tk => ?_
        rw [List.take_add_one, eb, List.map_append]
        have := hR.put b.1 (.bl true)
        rw [putN, if_neg] at this
        · exact this
        · rw [List.any_eq_true]
          rintro ⟨y, hy, e⟩
          obtain ⟨b2, hb2, rfl⟩ := List.mem_map.mp hy
          exact nd_take (·.1) nd eb b2 hb2 (of_decide_eq_true e)
      · intro H7 ukvs k67 hud7 hU
        rw [hxl, List.take_length] at hU
        have e7 := k67.keep _ _ e6 (by simp)
        have hup : ud ≠ p := fun z => by rw [z, e6] at hud; cases hud
        have hus : ud ≠ sd := fun z => by rw [z, s6] at hud; cases hud
        have huv : ud ≠ vd := fun z => by rw [z, v6] at hud; cases hud
        refine ⟨_, rfl, p, CD, dx, _, rfl, e7, c.cls, c.used, (show (5:Nat) < 1000 from by decide), ?_⟩
        have e8 : (upd H7 p (.ins CD dx (putF "used" (.ref ud) [("table", tv), ("policy", pw), ("today", .int 0), ("stays", .ref sd), ("vacated", .ref vd)]))) p = some (.ins CD dx (dkF tv pw 0 ⟨p, dx, sd, vd, ud⟩)) := upd_same
        have k78 : Kp [p] H7 (upd H7 p (.ins CD dx (putF "used" (.ref ud) [("table", tv), ("policy", pw), ("today", .int 0), ("stays", .ref sd), ("vacated", .ref vd)]))) := (Kp.refl H7).put (by simp) e7 ins_nt
        generalize upd H7 p (.ins CD dx (putF "used" (.ref ud) [("table", tv), ("policy", pw), ("today", .int 0), ("stays", .ref sd), ("vacated", .ref vd)])) = H8 at e8 k78 ⊢
        have k68 : Kp [p] H6 H8 := (k67.mono (by simp)).trans k78
        have k8 := k6.trans k68
        have nsd : H sd = none := k3.freeS hsd (by simp [hsp])
        have nvd : H vd = none := k5.freeS hvd (by simp [hvp])
        have nud : H ud = none := k6.freeS hud (by simp [hup])
        have D8 : ∀ (vd' : Addr) (H9 : Hp), Kp [p] H8 H9 → H9 p = some (.ins CD dx (dkF tv pw 0 ⟨p, dx, sd, vd', ud⟩)) → H9 vd' = some (.lst ((vac0 pol).map V.int)) → DockAt CD H9 ⟨p, dx, sd, vd', ud⟩ (dk0 h ss pol bs) := fun vd' H9 k9 a1 a2 => by
          refine ⟨⟨tv, pw, skvs, ukvs, a1, Tp.mono (k8.tup.trans k9.tup) _ _ ht, Tp.mono (k8.tup.trans k9.tup) _ _ hpol, k9.keep _ _ (k68.keep _ _ s6 (by simp [hsp])) (by simp [hsp]), hR6.tk (k68.tup.trans k9.tup), a2, k9.keep _ _ (k78.keep _ _ hud7 (by simp [hup])) (by simp [hup]), hU⟩, hus.symm⟩
        refine ⟨_, rfl, (show (2:Nat) ≤ sizeLine from by decide), fun p9 hp9 => ?_⟩
        have k9 : Kp [] H8 (upd H8 p9 (.tup [.str "least", .str "last"])) := Kp.new hp9
        have h9 := dp_strs (K := K) (xs := ["least", "last"]) (SqT.of (K := K) (H := upd H8 p9 (.tup [.str "least", .str "last"])) upd_same)
        generalize upd H8 p9 (.tup [.str "least", .str "last"]) = H9 at k9 h9 ⊢
        refine ⟨polD pol, [.str "least", .str "last"], Tp.dp _ _ (hpol.kp (k8.trans (k9.mono (by simp)))), h9, polD_plain pol, rfl, polD_depth pol, ?_⟩
        have e9 := k9.keep _ _ e8 (by simp)
        have v9 := k9.keep _ _ (k68.keep _ _ v6 (by simp [hvp])) (by simp)
        cases pol
        case least =>
          refine ⟨_, rfl, ?_⟩
          exact q sd vd ud H9 nsd nvd nud (k8.trans (k9.mono (by simp))) (D8 vd H9 (k9.mono (by simp)) e9 v9)
        case last =>
          refine ⟨_, rfl, ?_⟩
          exact q sd vd ud H9 nsd nvd nud (k8.trans (k9.mono (by simp))) (D8 vd H9 (k9.mono (by simp)) e9 v9)
        case long m =>
          refine ⟨_, rfl, ?_⟩
          obtain ⟨pa, v1, v2, rfl, hpa, t1, t2⟩ := tp_pair hpol
          rw [tp_str t1, tp_int t2] at hpa
          have kk9 := k8.trans (k9.mono (S' := [p]) (by simp))
          obtain ⟨m0, m2⟩ := hm m rfl
          refine ⟨_, rfl, pa, _, _, _, rfl, rfl, SqT.of (kk9.tup _ _ hpa), rfl, _, _, rfl, rfl, 1, _, rfl, rfl, RgOk.of_le (by omega) (by omega) (by omega) (by omega), fun vd' hvd' => ?_⟩
          have hvp' : vd' ≠ p := fun z => by rw [z] at hvd'; rw [e9] at hvd'; exact absurd hvd' (by simp)
          have k10' : Kp [] H9 (upd H9 vd' (.lst (rgV 1 (m + 1)))) := Kp.new hvd'
          have k10 : Kp [p] H9 (upd H9 vd' (.lst (rgV 1 (m + 1)))) := Kp.new hvd'
          refine ⟨_, rfl, p, CD, dx, _, rfl, k10'.keep _ _ e9 (by simp), c.cls, c.vacated, (show (6:Nat) < 1000 from by decide), ?_⟩
          have nvd' : H vd' = none := kk9.freeS hvd' (by simp [hvp'])
          refine q sd vd' ud _ nsd nvd' nud (kk9.trans (k10.put (by simp) (k10'.keep _ _ e9 (by simp)) ins_nt)) (D8 vd' _ ((k9.mono (by simp)).trans (k10.put (by simp) (k10'.keep _ _ e9 (by simp)) ins_nt)) upd_same ?_)
          rw [upd_ne hvp', upd_same]
          congr 2
          unfold rgV vac0
          rw [List.map_map, show (m + 1 - 1).toNat = m.toNat by congr 1; omega]
          refine List.map_congr_left fun i _ => ?_
          show V.int (1 + (i : Int)) = V.int ((i : Int) + 1)
          rw [Int.add_comm]
end
end Ba

set_option maxHeartbeats 400000
namespace Ba
open PySem PySem.Spec PyProof.Rows L2
section
variable {P : Program} {w : World} {K : PySem.W.Frag} {mg : Str → Option Value} {base : Heap} {f : Addr} {fd : FuncData}
def PolOk (pol : Pol) : Prop := ∀ m, pol = .long m → 0 ≤ m ∧ m ≤ 200
def DA.fresh (a : DA) (H : Hp) : Prop := ∀ x ∈ a.foot, H x = none
abbrev spDockCopy (CD : Addr) : Sp := Pr fun vs H Q _ => ∃ (a : DA) (D : Dk), vs = [.ref a.p] ∧ DockAt CD H a D ∧ PolOk D.pol ∧
  ∀ a' H', DA.fresh a' H → Kp [] H H' → DockAt CD H' a' D → Q (.ref a'.p) H'
theorem ok_Dock_copy {CD : Addr} (c : DockC K CD) (B : Bi mg) (D_mk_Dock : MkOk P w K mg base "Dock" CD 1 p_Dock_init [] (spDockInit K CD)) (F : FunS K "copy" "Dock.copy" s_Dock_copy [] [] f fd) :
    FnOk P w K mg base (L2N.CX P w) 3 f fd p_Dock_copy (spDockCopy CD) := by
  have S := sc_Dock_copy
  refine F.ok S (fun vs H Q E h => ?_) (fun cdv A outer s H vs Q E hr h => ?_)
  · obtain ⟨a, D, rfl, _⟩ := h
    rfl
  · obtain ⟨a, D, rfl, hD, hpo, q⟩ := h
    refine ⟨_, (pss_cons (ps_set (i := 1) S.nd rfl (Or.inl rfl) (pe_mk D_mk_Dock (hr.mono (by decide)) passLB rfl (pa_cons (pe_fld (pv 0) rfl) (pa_cons (pe_fld (pv 0) rfl) (pa_cons (pe_tup pa_nil) pa_nil)))))
      (pss_cons (ps_fld (pv 1) (pe_fld (pv 0) rfl) rfl)
      (pss_cons (ps_fld (pv 1) (pe_callTy call_dictC (by rfl) B.dict (by decide +kernel) (pa_cons (pe_fld (pv 0) rfl) pa_nil)) rfl)
      (pss_cons (ps_fld (pv 1) (pe_callTy call_list_of (by rfl) B.list (by decide +kernel) (pa_cons (pe_fld (pv 0) rfl) pa_nil)) rfl)
      (pss_cons (ps_fld (pv 1) (pe_callTy call_dictC (by rfl) B.dict (by decide +kernel) (pa_cons (pe_fld (pv 0) rfl) pa_nil)) rfl)
      (pss_one (ps_ret (pv 1)))))))), ?_⟩
    obtain ⟨⟨tv, pv, skvs, ukvs, h1, h2, h3, h4, h5, h6, h7, h8⟩, su⟩ := id hD
    refine ⟨_, rfl, a.p, CD, a.dx, _, tv, rfl, h1, c.cls, c.table, rfl, _, rfl, a.p, CD, a.dx, _, pv, rfl, h1, c.cls, c.policy, rfl, (show (0:Nat) ≤ sizeLine from by decide), fun p0 hp0 => ?_⟩
    have k0 : Kp [] H (upd H p0 (.tup [])) := Kp.new hp0
    have t0 : StrS K (upd H p0 (.tup [])) (.ref p0) [] := ⟨p0, [], rfl, SqT.of upd_same, .nil⟩
    generalize upd H p0 (.tup []) = H0 at k0 t0 ⊢
    intro x dx hx hdx hne
    have k1 : Kp [] H0 (upd (upd H0 dx (.own x)) x (.ins CD dx [])) := (Kp.new hdx).trans (Kp.new (by rw [upd_ne hne.symm]; exact hx))
    have kH1 := k0.trans k1
    refine ⟨x, dx, tv, pv, .ref p0, D.h, D.ss, D.pol, [], rfl, upd_same, h2.kp kH1, h3.kp kH1, t0.kp k1, by simp, List.nodup_nil, hpo, fun sd vd ud H2 nsd nvd nud k2 D2 => ⟨rfl, ?_⟩⟩
    generalize (upd (upd H0 dx (.own x)) x (.ins CD dx [])) = H1 at k1 kH1 nsd nvd nud k2
    have nx : H x = none := k0.free hx
    have k02 : Kp [x] H H2 := (kH1.mono (by simp)).trans k2
    have kk : Kp [] H H2 := k02.less (fun b hb => by
      have e : b = x := by simpa using hb
      rw [e]; exact .inr nx)
    obtain ⟨⟨tv2, pv2, skvs2, ukvs2, i1, i2, i3, i4, i5, i6, i7, i8⟩, su2⟩ := D2
    have i1 : H2 x = some (.ins CD dx (dkF tv2 pv2 0 ⟨x, dx, sd, vd, ud⟩)) := i1
    -- found.today
    refine ⟨_, rfl, a.p, CD, a.dx, _, _, rfl, kk.keep _ _ h1 (by simp), c.cls, c.today, rfl, _, rfl, x, CD, dx, _, rfl, i1, c.cls, c.today, (show (6:Nat) < 1000 from by decide), ?_⟩
    have j1 : (upd H2 x (.ins CD dx (putF "today" (.int D.day) (dkF tv2 pv2 0 ⟨x, dx, sd, vd, ud⟩)))) x = some (.ins CD dx (dkF tv2 pv2 D.day ⟨x, dx, sd, vd, ud⟩)) := upd_same
    have m1 : Kp [x] H2 (upd H2 x (.ins CD dx (putF "today" (.int D.day) (dkF tv2 pv2 0 ⟨x, dx, sd, vd, ud⟩)))) := (Kp.refl _).put (by simp) i1 ins_nt
    have lx : ∀ {G : Hp}, Kp [x] H G → Kp [] H G := fun k => k.less (fun b hb => by
      have e : b = x := by simpa using hb
      rw [e]; exact .inr nx)
    generalize upd H2 x (.ins CD dx (putF "today" (.int D.day) (dkF tv2 pv2 0 ⟨x, dx, sd, vd, ud⟩))) = H3 at j1 m1 ⊢
    have k03 := k02.trans m1
    -- found.stays
    refine ⟨_, rfl, a.p, CD, a.dx, _, _, rfl, (lx k03).keep _ _ h1 (by simp), c.cls, c.stays, rfl, a.sd, skvs, rfl, (lx k03).keep _ _ h4 (by simp), fun sd' hsd' => ?_⟩
    have nsx : sd' ≠ x := fun z => by rw [z] at hsd'; rw [j1] at hsd'; cases hsd'
    refine ⟨_, rfl, x, CD, dx, _, rfl, (upd_ne nsx.symm).trans j1, c.cls, c.stays, (show (6:Nat) < 1000 from by decide), ?_⟩
    have m2' : Kp [] H3 (upd H3 sd' (.dK skvs)) := Kp.new hsd'
    have j2 : (upd (upd H3 sd' (.dK skvs)) x (.ins CD dx (putF "stays" (.ref sd') (dkF tv2 pv2 D.day ⟨x, dx, sd, vd, ud⟩)))) x = some (.ins CD dx (dkF tv2 pv2 D.day ⟨x, dx, sd', vd, ud⟩)) := upd_same
    have m2 : Kp [x] H3 (upd (upd H3 sd' (.dK skvs)) x (.ins CD dx (putF "stays" (.ref sd') (dkF tv2 pv2 D.day ⟨x, dx, sd, vd, ud⟩)))) := (m2'.mono (by simp)).put (by simp) (m2'.keep _ _ j1 (by simp)) ins_nt
    have s4 : (upd (upd H3 sd' (.dK skvs)) x (.ins CD dx (putF "stays" (.ref sd') (dkF tv2 pv2 D.day ⟨x, dx, sd, vd, ud⟩)))) sd' = some (.dK skvs) := by rw [upd_ne nsx, upd_same]
    generalize upd (upd H3 sd' (.dK skvs)) x (.ins CD dx (putF "stays" (.ref sd') (dkF tv2 pv2 D.day ⟨x, dx, sd, vd, ud⟩))) = H4 at j2 m2 s4 ⊢
    have k04 := k03.trans m2
    -- found.vacated
    refine ⟨_, rfl, a.p, CD, a.dx, _, _, rfl, (lx k04).keep _ _ h1 (by simp), c.cls, c.vacated, rfl, a.vd, _, rfl, .inl (SqL.of ((lx k04).keep _ _ h6 (by simp))), fun vd' hvd' => ?_⟩
    have nvx : vd' ≠ x := fun z => by rw [z] at hvd'; rw [j2] at hvd'; cases hvd'
    have nvs : vd' ≠ sd' := fun z => by rw [z] at hvd'; rw [s4] at hvd'; cases hvd'
    refine ⟨_, rfl, x, CD, dx, _, rfl, (upd_ne nvx.symm).trans j2, c.cls, c.vacated, (show (6:Nat) < 1000 from by decide), ?_⟩
    have m3' : Kp [] H4 (upd H4 vd' (.lst (D.vac.map V.int))) := Kp.new hvd'
    have j3 : (upd (upd H4 vd' (.lst (D.vac.map V.int))) x (.ins CD dx (putF "vacated" (.ref vd') (dkF tv2 pv2 D.day ⟨x, dx, sd', vd, ud⟩)))) x = some (.ins CD dx (dkF tv2 pv2 D.day ⟨x, dx, sd', vd', ud⟩)) := upd_same
    have m3 : Kp [x] H4 (upd (upd H4 vd' (.lst (D.vac.map V.int))) x (.ins CD dx (putF "vacated" (.ref vd') (dkF tv2 pv2 D.day ⟨x, dx, sd', vd, ud⟩)))) := (m3'.mono (by simp)).put (by simp) (m3'.keep _ _ j2 (by simp)) ins_nt
    have v5 : (upd (upd H4 vd' (.lst (D.vac.map V.int))) x (.ins CD dx (putF "vacated" (.ref vd') (dkF tv2 pv2 D.day ⟨x, dx, sd', vd, ud⟩)))) vd' = some (.lst (D.vac.map V.int)) := by rw [upd_ne nvx, upd_same]
    generalize upd (upd H4 vd' (.lst (D.vac.map V.int))) x (.ins CD dx (putF "vacated" (.ref vd') (dkF tv2 pv2 D.day ⟨x, dx, sd', vd, ud⟩))) = H5 at j3 m3 v5 ⊢
    have k05 := k04.trans m3
    -- found.used
    refine ⟨_, rfl, a.p, CD, a.dx, _, _, rfl, (lx k05).keep _ _ h1 (by simp), c.cls, c.used, rfl, a.ud, ukvs, rfl, (lx k05).keep _ _ h7 (by simp), fun ud' hud' => ?_⟩
    have s5 := m3.keep _ _ s4 (by simp [nsx])
    have nux : ud' ≠ x := fun z => by rw [z] at hud'; rw [j3] at hud'; cases hud'
    have nus : ud' ≠ sd' := fun z => by rw [z] at hud'; rw [s5] at hud'; cases hud'
    refine ⟨_, rfl, x, CD, dx, _, rfl, (upd_ne nux.symm).trans j3, c.cls, c.used, (show (6:Nat) < 1000 from by decide), ?_⟩
    have m4' : Kp [] H5 (upd H5 ud' (.dK ukvs)) := Kp.new hud'
    have j4 : (upd (upd H5 ud' (.dK ukvs)) x (.ins CD dx (putF "used" (.ref ud') (dkF tv2 pv2 D.day ⟨x, dx, sd', vd', ud⟩)))) x = some (.ins CD dx (dkF tv2 pv2 D.day ⟨x, dx, sd', vd', ud'⟩)) := upd_same
    have m4 : Kp [x] H5 (upd (upd H5 ud' (.dK ukvs)) x (.ins CD dx (putF "used" (.ref ud') (dkF tv2 pv2 D.day ⟨x, dx, sd', vd', ud⟩)))) := (m4'.mono (by simp)).put (by simp) (m4'.keep _ _ j3 (by simp)) ins_nt
    have u6 : (upd (upd H5 ud' (.dK ukvs)) x (.ins CD dx (putF "used" (.ref ud') (dkF tv2 pv2 D.day ⟨x, dx, sd', vd', ud⟩)))) ud' = some (.dK ukvs) := by rw [upd_ne nux, upd_same]
    generalize upd (upd H5 ud' (.dK ukvs)) x (.ins CD dx (putF "used" (.ref ud') (dkF tv2 pv2 D.day ⟨x, dx, sd', vd', ud⟩))) = H6 at j4 m4 u6 ⊢
    have k06 := k05.trans m4
    have k26 := (m1.trans m2).trans (m3.trans m4)
    refine ⟨_, rfl, ?_⟩
    refine q ⟨x, dx, sd', vd', ud'⟩ H6 ?_ (lx k06) ⟨⟨tv2, pv2, skvs, ukvs, j4, i2.kp k26, i3.kp k26, m4.keep _ _ s5 (by simp [nsx]), h5.tk k06.tup, m4.keep _ _ v5 (by simp [nvx]), u6, h8⟩, nus.symm⟩
    intro y hy
    have hy' : y = x ∨ y = sd' ∨ y = vd' ∨ y = ud' := by simpa [DA.foot] using hy
    rcases hy' with rfl | rfl | rfl | rfl
    · exact nx
    · exact k03.freeS hsd' (by simp [nsx])
    · exact k04.freeS hvd' (by simp [nvx])
    · exact k05.freeS hud' (by simp [nux])
end
end Ba

set_option maxHeartbeats 400000
namespace Ba
open PySem PySem.Spec PyProof.Rows L2
/-! ### departures -/
/-- (until, arrival, ship, berth) -/
abbrev Lv4 := Int × Int × Int × Int
def encL (l : Lv4) : PyData := .tuple [.int l.1, .tuple [.int l.2.1, .int l.2.2.1], .int l.2.2.2]
def lvOf (s : St4) : Lv4 := (s.2.1, s.2.2.1, s.2.2.2, s.1)
def lvs (st : List St4) (t : Int) : List Lv4 := ((st.filter fun s => decide (s.2.1 ≤ t)).map lvOf).mergeSort (PySem.W.dataLe false encL)
def Pol.isLeast : Pol → Bool
  | .least => true
  | _ => false
def leaveM (D : Dk) (t : Int) : Dk := { D with stays := D.stays.filter fun s => !decide (s.2.1 ≤ t), vac := if D.pol.isLeast = true then D.vac else D.vac ++ (lvs D.stays t).map (·.2.2.2) }
/-- what the simulation keeps: berths of the stays are unlike; nothing is too long -/
structure DkOk (N : Nat) (D : Dk) : Prop where
  nd : (D.stays.map (·.1)).Nodup
  sv : D.stays.length + D.vac.length ≤ N
  us : D.used.length ≤ N
theorem lvs_perm (st : List St4) (t : Int) : (lvs st t).Perm ((st.filter fun s => decide (s.2.1 ≤ t)).map lvOf) := List.mergeSort_perm _ _
theorem lvs_len (st : List St4) (t : Int) : (lvs st t).length = (st.filter fun s => decide (s.2.1 ≤ t)).length := by rw [(lvs_perm st t).length_eq, List.length_map]
theorem lvs_nd {st : List St4} {t : Int} (nd : (st.map (·.1)).Nodup) : ((lvs st t).map (·.2.2.2)).Nodup := by
  rw [((lvs_perm st t).map _).nodup_iff, List.map_map]
  exact (List.Sublist.map _ List.filter_sublist).nodup nd
theorem lvs_mem {st : List St4} {t : Int} (nd : (st.map (·.1)).Nodup) {s : St4} (hs : s ∈ st) : s.1 ∈ (lvs st t).map (·.2.2.2) ↔ s.2.1 ≤ t := by
  rw [((lvs_perm st t).map _).mem_iff, List.map_map]
  constructor
  · intro h
    obtain ⟨s2, h2, e⟩ := List.mem_map.mp h
    have h2' := List.mem_filter.mp h2
    have e : s2.1 = s.1 := e
    have : s2 = s := nd_inj (·.1) nd h2'.1 hs e
    subst this
    exact of_decide_eq_true h2'.2
  · intro h
    exact List.mem_map.mpr ⟨s, List.mem_filter.mpr ⟨hs, decide_eq_true h⟩, rfl⟩
theorem lvs_sub {st : List St4} {t : Int} {l : Lv4} (h : l ∈ lvs st t) : ∃ s ∈ st, l = lvOf s ∧ s.2.1 ≤ t := by
  obtain ⟨s, h1, rfl⟩ := List.mem_map.mp ((lvs_perm st t).mem_iff.mp h)
  have h2 := List.mem_filter.mp h1
  exact ⟨s, h2.1, rfl, of_decide_eq_true h2.2⟩
theorem leave_split (st : List St4) (t : Int) : (st.filter fun s => !decide (s.2.1 ≤ t)).length + (lvs st t).length = st.length := by
  rw [lvs_len]
  induction st with
  | nil => rfl
  | cons s st ih =>
    by_cases e : s.2.1 ≤ t
    · simp only [List.filter_cons, e, decide_true, Bool.not_true, List.length_cons]
      simp only [if_true, List.length_cons]
      simp only [Bool.false_eq_true, if_false]
      omega
    · simp only [List.filter_cons, e, decide_false, Bool.not_false, List.length_cons]
      simp only [if_true, List.length_cons]
      simp only [Bool.false_eq_true, if_false]
      omega
theorem DkOk.leave {N : Nat} {D : Dk} (d : DkOk N D) (t : Int) : DkOk N (leaveM D t) := by
  refine ⟨(List.Sublist.map _ List.filter_sublist).nodup d.nd, ?_, d.us⟩
  have h := leave_split D.stays t
  have h2 := d.sv
  unfold leaveM
  simp only
  split
  · omega
  · rw [List.length_append, List.length_map]
    omega
theorem encL_alike (b b' : Lv4) : PySem.W.alike (encL b) (encL b') = true := by
  simp [encL, PySem.W.alike, PySem.W.alikeAll]
theorem encL_depth (b : Lv4) : (encL b).depth ≤ 60 := by
  simp [encL, PyData.depth, PyData.depthAll]
section
variable {P : Program} {w : World} {K : PySem.W.Frag} {mg : Str → Option Value} {base : Heap} {f : Addr} {fd : FuncData}
theorem flatMap_if {α β : Type} (l : List α) (c : α → Bool) (g : α → β) : (l.flatMap fun s => if c s = true then [g s] else []) = (l.filter c).map g := by
  induction l with
  | nil => rfl
  | cons a l ih =>
    rw [List.flatMap_cons, ih, List.filter_cons]
    cases e : c a <;> rfl
theorem tp_st {H : Hp} {v : V} {s : St4} (h : Tp H v (stD s)) : ∃ c o, v = .ref c ∧ H c = some (.tup [.int s.2.1, .ref o]) ∧ H o = some (.tup [.int s.2.2.1, .int s.2.2.2]) := by
  obtain ⟨c, v1, v2, rfl, h1, t1, t2⟩ := tp_pair h
  obtain ⟨o, w1, w2, rfl, h2, u1, u2⟩ := tp_pair t2
  rw [tp_int t1] at h1
  rw [tp_int u1, tp_int u2] at h2
  exact ⟨c, o, rfl, h1, h2⟩
theorem tp_lv {H : Hp} {v : V} {s : Lv4} (h : Tp H v (encL s)) : ∃ c o, v = .ref c ∧ H c = some (.tup [.int s.1, .ref o, .int s.2.2.2]) ∧ H o = some (.tup [.int s.2.1, .int s.2.2.1]) := by
  obtain ⟨c, xs, rfl, h1, h2⟩ := tp_tup h
  cases h2 with
  | cons t1 r =>
    cases r with
    | cons t2 r =>
      cases r with
      | cons t3 r =>
        cases r
        obtain ⟨o, w1, w2, rfl, h2, u1, u2⟩ := tp_pair t2
        rw [tp_int t1, tp_int t3] at h1
        rw [tp_int u1, tp_int u2] at h2
        exact ⟨c, o, rfl, h1, h2⟩
def leaveI (D : Dk) (t : Int) (i : Nat) : Dk := { D with stays := D.stays.filter fun s => !(((lvs D.stays t).take i).map (·.2.2.2)).contains s.1, vac := if D.pol.isLeast = true then D.vac else D.vac ++ ((lvs D.stays t).take i).map (·.2.2.2) }
theorem leaveI_zero (D : Dk) (t : Int) : leaveI D t 0 = D := by
  unfold leaveI
  simp only [List.take_zero, List.map_nil, List.contains_nil, Bool.not_false, List.append_nil, ite_self]
  rw [List.filter_eq_self.mpr (fun _ _ => rfl)]
theorem leaveI_end (D : Dk) (t : Int) (nd : (D.stays.map (·.1)).Nodup) : leaveI D t (lvs D.stays t).length = leaveM D t := by
  unfold leaveI leaveM
  rw [List.take_length]
  congr 1
  refine List.filter_congr fun s hs => ?_
  congr 1
  rw [Bool.eq_iff_iff, List.contains_iff_mem, lvs_mem nd hs, decide_eq_true_iff]
theorem pol_isLeast (p : Pol) : PyData.eqv (polD p) (.str "least") = p.isLeast := by cases p <;> rfl
theorem leaveI_succ (D : Dk) (t : Int) {i : Nat} {l : Lv4} (h : (lvs D.stays t)[i]? = some l) : (leaveI D t (i + 1)).stays = (leaveI D t i).stays.filter fun s => decide (s.1 ≠ l.2.2.2) := by
  unfold leaveI
  simp only
  rw [List.filter_filter]
  refine List.filter_congr fun s _ => ?_
  rw [List.take_add_one, h, List.map_append]
  show (!(List.contains (_ ++ [l.2.2.2]) s.1)) = _
  rw [Bool.eq_iff_iff]
  simp [not_or, and_comm]
abbrev spDockLeave (CD : Addr) : Sp := Pr fun vs H Q _ => ∃ (a : DA) (D : Dk) (t : Int) (N : Nat), vs = [.ref a.p, .int t] ∧ DockAt CD H a D ∧ DkOk N D ∧ N ≤ 1000000 ∧
  ∀ H', Kp a.foot H H' → DockAt CD H' a (leaveM D t) → Q .non H'
theorem ok_Dock_leave_until {CD : Addr} (c : DockC K CD) (B : Bi mg) (R : RRun mg) (F : FunS K "leave_until" "Dock.leave_until" s_Dock_leave_until [] [] f fd) :
    FnOk P w K mg base (L2N.CX P w) 1 f fd p_Dock_leave_until (spDockLeave CD) := by
  have S := sc_Dock_leave_until
  refine F.ok S (fun vs H Q E h => ?_) (fun cdv A outer s H vs Q E hr h => ?_)
  · obtain ⟨a, D, t, N, rfl, _⟩ := h
    rfl
  · obtain ⟨a, D, t, N, rfl, hD, hok, hN, q⟩ := h
    refine ⟨_, (pss_cons (ps_lock (ps_setLc (i := 2) (own := [("berth", 3), ("until", 4), ("order", 5)]) (g := (gTup K 2 (gCons (gName 3) (gCons (gTup K 2 (gCons (gName 4) (gCons (gName 5) gNil))) gNil)))) rfl S.nd rfl rfl (sw_true rfl rfl rfl (by decide +kernel)) (pi_items (pe_fld (pv 0) rfl)) (blkOk_by (own := [("berth", 3), ("until", 4), ("order", 5)]) (N := n_Dock_leave_until) (sc := defScope s_Dock_leave_until) (by decide +kernel)) (fun _ _ _ _ _ => (pg_tup rfl (pgs_cons (pg_name (i := 3) S.nd rfl (Or.inl rfl)) (pgs_cons (pg_tup rfl (pgs_cons (pg_name (i := 4) S.nd rfl (Or.inl rfl)) (pgs_cons (pg_name (i := 5) S.nd rfl (Or.inl rfl)) pgs_nil))) pgs_nil)))) (fun _ _ _ _ _ => (pts_one (pt_cmpR op_le (pv 4) (pv 1) (nomark _)))) (fun _ _ _ _ _ => (pe_tup (pa_cons (pv 4) (pa_cons (pv 5) (pa_cons (pv 3) pa_nil)))))))
      (pss_one (ps_for (passes_of rfl) rfl (pi_list (pe_callB (cr_sortD hr.units encL) (by rfl) B.sorted (by decide +kernel) (pa_cons (pv 2) pa_nil))) (pg_tup rfl (pgs_cons (pg_name (i := 4) S.nd rfl (Or.inl rfl)) (pgs_cons (pg_name (i := 5) S.nd rfl (Or.inl rfl)) (pgs_cons (pg_name (i := 3) S.nd rfl (Or.inl rfl)) pgs_nil))))
      (pss_cons (ps_ddel (pe_fld (pv 0) rfl) (pv 3))
      (pss_one (ps_if (pt_cmpR (op_neP hr.units) (pe_fld (pv 0) rfl) (pe_gstr (z := "least") (by rfl) R.LEAST) (nomark _)) (pss_one (ps_expr (pe_bm PySem.F.plainAttrs_list PySem.F.slot_list_append PySem.F.type_list_append mt_append (pe_fld (pv 0) rfl) (pa_cons (pv 3) pa_nil)))) pss_nil)))))), ?_⟩
    obtain ⟨⟨tv, pv, skvs, ukvs, h1, h2, h3, h4, h5, h6, h7, h8⟩, su⟩ := id hD
    refine ⟨a.sd, .dK skvs, h4, by trivial, fun od => ?_⟩
    have n1 : a.p ≠ a.sd := fun z => by rw [z, h4] at h1; cases h1
    refine ⟨_, rfl, a.p, CD, a.dx, _, _, rfl, (upd_ne n1).trans h1, c.cls, c.stays, rfl, a.sd, od, skvs, rfl, upd_same, fun L hL => ?_⟩
    refine (lc_data (walk_items (d := a.sd) (o := od) (kvs := skvs)) (fun i => match D.stays[i]? with | some s => if decide (s.2.1 ≤ t) = true then [encL (lvOf s)] else [] | none => []) hL (fun H4 k4 => k4.keep _ _ upd_same (by simp)) ?_ ?_)
    · rintro i x H4 H5 hi L4 ⟨T, k, v, ek, rfl, hT, rfl⟩
      have tk4 : TK H H4 := (tk_frz h4 dK_nt).trans L4.kp.tup
      obtain ⟨s, es, rfl, ts⟩ := (h5.tk tk4).at ek
      obtain ⟨c, o, rfl, hc, ho⟩ := tp_st ts
      have hc2 : (upd H4 T (.tup [.int s.1, .ref c])) c = _ := (TK.new hT) _ _ hc
      refine ⟨T, _, rfl, SqT.of upd_same, rfl, _, _, rfl, _, _, rfl, ⟨c, _, rfl, SqT.of hc2, rfl, _, _, rfl, _, _, rfl, rfl, ?_⟩⟩
      refine ⟨rfl, ?_⟩
      refine ⟨wipe3 (by decide), ?_⟩
      have hi2 : skvs.length < 2000000 := by
        have := h5.len
        have := hok.sv
        omega
      refine ⟨_, rfl, _, rfl, _, _, rfl, rfl, _, rfl, ?_⟩
      by_cases hle : s.2.1 ≤ t
      · refine iteT' (decide_eq_true hle) ?_
        refine ⟨_, rfl, _, rfl, _, rfl, (show (3:Nat) ≤ sizeLine from by decide), fun t1 ht1 => ?_⟩
        refine L4.fin (d := encL (lvOf s)) hi2 hL hi ((Kp.new hT).trans (Kp.new ht1)) (by rw [es]; exact if_pos (decide_eq_true hle)) (.tup upd_same (.cons (.int _) (.cons (.tup (TK.new ht1 _ _ (TK.new hT _ _ ho)) (.cons (.int _) (.cons (.int _) .nil))) (.cons (.int _) .nil))))
      · refine iteF' (decide_eq_false hle) ?_
        exact L4.skip hi (Kp.new hT) (by rw [es]; exact if_neg (by rw [decide_eq_false hle]; exact Bool.false_ne_true))
    · intro H4 acc k4 hacc _ hT
      rw [h5.len, flatMap_some D.stays _ (fun s => if decide (s.2.1 ≤ t) = true then [encL (lvOf s)] else []) (fun i x e => by rw [e]), flatMap_if] at hT
      rw [show (D.stays.filter fun s => decide (s.2.1 ≤ t)).map (fun s => encL (lvOf s)) = ((D.stays.filter fun s => decide (s.2.1 ≤ t)).map lvOf).map encL by rw [List.map_map]; rfl] at hT
      refine ⟨k4.keep _ _ upd_same (by simp), ?_⟩
      have k6 : Kp [] H (upd H4 a.sd (.dK skvs)) := kp_unlock h4 dK_nt k4
      have nLs : L ≠ a.sd := fun z => by rw [z, upd_same] at hL; cases hL
      have hacc6 : (upd H4 a.sd (.dK skvs)) L = some (.lst acc) := by rw [upd_ne nLs]; exact hacc
      have hT6 : TpAll (upd H4 a.sd (.dK skvs)) acc _ := TpAll.mono (fun b ys e => by rw [upd_ne (ne_of e (k4.keep _ _ upd_same (by simp)) (fun z => nomatch z))]; exact e) _ _ hT
      generalize upd H4 a.sd (.dK skvs) = H6 at k6 hacc6 hT6 ⊢
      refine ⟨_, rfl, L, acc, _, rfl, SqL.of hacc6, hT6, encL_alike, fun b => ⟨_, _, rfl⟩, encL_depth, fun ys p hys hyl hp => ?_⟩
      have k67 : Kp [] H6 (upd H6 p (.lst ys)) := Kp.new hp
      have hys7 := hys.kp k67
      have hp7 : (upd H6 p (.lst ys)) p = some (.lst ys) := upd_same
      generalize upd H6 p (.lst ys) = H7 at k67 hys7 hp7 ⊢
      have k7 := k6.trans k67
      have D7 := hD.kp k7 (by simp)
      have hpf : p ∉ a.foot := fun z => by
        have : H p ≠ none := by
          have z : p = a.p ∨ p = a.sd ∨ p = a.vd ∨ p = a.ud := by simpa [DA.foot] using z
          rcases z with z | z | z | z
          · rw [z, h1]; simp
          · rw [z, h4]; simp
          · rw [z, h6]; simp
          · rw [z, h7]; simp
        exact this (k6.free hp)
      have hys8 : TpAll H7 ys ((lvs D.stays t).map encL) := hys7
      have hyl8 : ys.length = (lvs D.stays t).length := tpAll_mlen hys8
      refine ⟨p, rfl, ⟨ys, SqL.of hp7⟩, for_it (walk_list (K := K) (a := p) (xs := ys)) (fun i σ H => ∃ o3 o4 o5 : Option V, σ = [some (.ref a.p), some (.int t), some (.ref L), o3, o4, o5] ∧ Kp a.foot H7 H ∧ DockAt CD H a (leaveI D t i)) ⟨none, none, none, rfl, Kp.refl _, by rw [leaveI_zero]; exact D7⟩ ?_ ?_ ?_⟩
      · rintro i σ H8 _ ⟨o3, o4, o5, rfl, k8, _⟩
        exact SqL.of (k8.keep _ _ hp7 hpf)
      · rintro i x σ H8 H9 hi ⟨o3, o4, o5, rfl, k8, D8⟩ ⟨rfl, hx⟩
        obtain ⟨l, el, tl⟩ := tpAll_at (hys8.kp k8) hx
        obtain ⟨c3, o, rfl, hc3, ho⟩ := tp_lv tl
        refine ⟨c3, _, rfl, SqT.of hc3, rfl, _, _, rfl, _, _, rfl, _, _, rfl, rfl, ?_⟩
        obtain ⟨⟨tv', pv', skvs', ukvs', g1, g2, g3, g4, g5, g6, g7, g8⟩, _⟩ := D8
        have hil := (List.getElem?_eq_some_iff.mp el).1
        have hsome : (valV skvs' (.inl l.2.2.2)).isSome = true := by
          rw [g5.val, List.any_eq_true]
          obtain ⟨s, hs, rfl, hle⟩ := lvs_sub (List.mem_of_getElem? el)
          refine ⟨s, List.mem_filter.mpr ⟨hs, ?_⟩, decide_eq_true rfl⟩
          rw [Bool.not_eq_true', ← Bool.not_eq_true, List.contains_iff_mem]
          intro hm
          obtain ⟨l2, hl2, e2⟩ := List.mem_map.mp hm
          exact nd_take (·.2.2.2) (lvs_nd hok.nd) el l2 hl2 e2
        refine ⟨_, rfl, a.p, CD, a.dx, _, _, rfl, g1, c.cls, c.stays, rfl, _, rfl, a.sd, skvs', .inl l.2.2.2, rfl, g4, rfl, hsome, ?_⟩
        have kd : Kp a.foot H9 (upd H9 a.sd (.dK (dropK skvs' (.inl l.2.2.2)))) := (Kp.refl _).put (by simp [DA.foot]) g4 dK_nt
        have ns : ∀ {b : Addr} {u : HO}, H9 b = some u → (∀ k, u ≠ .dK k) → b ≠ a.sd := fun {b u} e n z => by rw [z, g4] at e; cases e; exact n _ rfl
        have G1 := (upd_ne (H := H9) (o := .dK (dropK skvs' (.inl l.2.2.2))) (ns g1 (fun _ z => nomatch z))).trans g1
        have G4 : (upd H9 a.sd (.dK (dropK skvs' (.inl l.2.2.2)))) a.sd = _ := upd_same
        have G6 := (upd_ne (H := H9) (o := .dK (dropK skvs' (.inl l.2.2.2))) (ns g6 (fun _ z => nomatch z))).trans g6
        have G7 := (upd_ne (H := H9) (o := .dK (dropK skvs' (.inl l.2.2.2))) su.symm).trans g7
        have G5 := (g5.drop l.2.2.2).tk kd.tup
        generalize upd H9 a.sd (.dK (dropK skvs' (.inl l.2.2.2))) = H10 at kd G1 G4 G5 G6 G7 ⊢
        refine ⟨_, rfl, a.p, CD, a.dx, _, _, rfl, G1, c.cls, c.policy, rfl, polD D.pol, .str "least", Tp.dp _ _ (g3.kp kd), .str _, polD_plain _, rfl, polD_depth _, _, rfl, ?_⟩
        rw [pol_isLeast]
        cases ep : D.pol.isLeast with
        | true =>
          refine ⟨_, _, _, rfl, k8.trans kd, ⟨⟨tv', pv', _, ukvs', G1, g2.kp kd, g3.kp kd, G4, ?_, ?_, G7, g8⟩, su⟩⟩
          · rw [leaveI_succ D t el]; exact G5
          · rw [G6]; unfold leaveI; simp [ep]
        | false =>
          have hvl : ((leaveI D t i).vac.map V.int).length < sizeLine := by
            have : (2000000 : Nat) < sizeLine := by decide
            have h9 := hok.sv
            have h10 := leave_split D.stays t
            rw [List.length_map]
            unfold leaveI
            simp only [ep, Bool.false_eq_true, if_false]
            rw [List.length_append, List.length_map, List.length_take]
            omega
          refine ⟨_, rfl, a.p, CD, a.dx, _, _, rfl, G1, c.cls, c.vacated, rfl, .inl ⟨rfl, _, SqL.of G6⟩, _, rfl, a.vd, _, _, rfl, rfl, G6, hvl, ?_⟩
          have kv : Kp a.foot H10 (upd H10 a.vd (.lst ((leaveI D t i).vac.map V.int ++ [.int l.2.2.2]))) := (Kp.refl _).put (by simp [DA.foot]) G6 lst_nt
          have nv : ∀ {b : Addr} {u : HO}, H10 b = some u → (∀ k, u ≠ .lst k) → b ≠ a.vd := fun {b u} e n z => by rw [z, G6] at e; cases e; exact n _ rfl
          refine ⟨_, _, _, rfl, (k8.trans kd).trans kv, ⟨⟨tv', pv', _, ukvs', (upd_ne (nv G1 (fun _ z => nomatch z))).trans G1, (g2.kp kd).kp kv, (g3.kp kd).kp kv, (upd_ne (nv G4 (fun _ z => nomatch z))).trans G4, ?_, ?_, (upd_ne (nv G7 (fun _ z => nomatch z))).trans G7, g8⟩, su⟩⟩
          · rw [leaveI_succ D t el]; exact G5.tk kv.tup
          · rw [upd_same]
            unfold leaveI
            simp only [ep, Bool.false_eq_true, if_false]
            rw [List.take_add_one, el, List.map_append, List.map_append, List.map_append, List.map_append, List.append_assoc]
            rfl
      · rintro σ H8 ⟨o3, o4, o5, rfl, k8, D8⟩
        rw [hyl8, leaveI_end D t hok.nd] at D8
        exact q H8 ((k7.mono (by simp)).trans k8) D8
end
end Ba

set_option maxHeartbeats 400000
namespace Ba
open PySem PySem.Spec PyProof.Rows L2
/-! ### the least berth that is not taken -/
theorem pigeon : ∀ (n : Nat) (l : List Int), (∀ y : Int, 1 ≤ y → y ≤ n → y ∈ l) → n ≤ l.length
  | 0, _, _ => Nat.zero_le _
  | n + 1, l, h => by
    have hm : ((n + 1 : Nat) : Int) ∈ l := h _ (by omega) (Int.le_refl _)
    have ih := pigeon n (l.erase ((n + 1 : Nat) : Int)) (fun y h1 h2 => (List.mem_erase_of_ne (by omega)).mpr (h y h1 (by omega)))
    rw [List.length_erase_of_mem hm] at ih
    have : 0 < l.length := List.length_pos_of_mem hm
    omega
def leastFrom (l : List Int) : Nat → Int → Int
  | 0, x => x
  | n + 1, x => if l.contains x = true then leastFrom l n (x + 1) else x
def leastNot (l : List Int) : Int := leastFrom l l.length 1
theorem leastFrom_not (l : List Int) : ∀ (n : Nat) (x : Int), x + n = l.length + 1 → 1 ≤ x → (∀ y, 1 ≤ y → y < x → y ∈ l) → ¬ leastFrom l n x ∈ l ∧ x ≤ leastFrom l n x ∧ ∀ y, 1 ≤ y → y < leastFrom l n x → y ∈ l
  | 0, x, h, h1, ha => by
    refine ⟨fun hm => ?_, Int.le_refl _, ha⟩
    have hm : x ∈ l := hm
    have := pigeon (l.length + 1) l (fun y h1 h2 => by
      by_cases e : y = x
      · rw [e]; exact hm
      · exact ha y h1 (by omega))
    omega
  | n + 1, x, h, h1, ha => by
    by_cases e : l.contains x = true
    · have := leastFrom_not l n (x + 1) (by omega) (by omega) (fun y h1 h2 => by
        by_cases e2 : y = x
        · rw [e2]; exact List.contains_iff_mem.mp e
        · exact ha y h1 (by omega))
      unfold leastFrom
      rw [if_pos e]
      exact ⟨this.1, by omega, this.2.2⟩
    · unfold leastFrom
      rw [if_neg e]
      exact ⟨fun z => e (List.contains_iff_mem.mpr z), Int.le_refl _, ha⟩
theorem leastNot_spec (l : List Int) : ¬ leastNot l ∈ l ∧ 1 ≤ leastNot l ∧ ∀ y, 1 ≤ y → y < leastNot l → y ∈ l :=
  leastFrom_not l l.length 1 (by omega) (by omega) (fun y h1 h2 => by omega)
theorem contains_any (l : List Int) (x : Int) : (l.any fun s => decide (s = x)) = l.contains x := by
  induction l with
  | nil => rfl
  | cons a l ih =>
    rw [List.any_cons, ih, List.contains_cons]
    congr 1
    rw [Bool.eq_iff_iff, decide_eq_true_iff, beq_iff_eq]
    exact eq_comm
/-- a dict's keys -/
theorem DvAt.keysAt {α : Type} {H : Hp} {key : α → Int} {enc : α → PyData} {kvs : List (Key × V)} {ss : List α} (h : DvAt H key enc kvs ss) : KeysAt kvs (ss.map key) := ⟨by rw [h.keys, List.map_map]; rfl⟩
section
variable {P : Program} {w : World} {K : PySem.W.Frag} {mg : Str → Option Value} {base : Heap} {f : Addr} {fd : FuncData}
abbrev spLeastUnused : Sp := Pr fun vs H Q _ => ∃ (x : V) (d : Addr) (kvs : List (Key × V)) (ns : List Int), vs = [x, .ref d] ∧ H d = some (.dK kvs) ∧ KeysAt kvs ns ∧ Q (.int (leastNot ns)) H
theorem ok_Dock_least_unused (F : FunS K "least_unused" "Dock.least_unused" s_Dock_least_unused [] [] f fd) :
    FnOk P w K mg base (L2N.CX P w) 1 f fd p_Dock_least_unused spLeastUnused := by
  have S := sc_Dock_least_unused
  refine F.ok S (fun vs H Q E h => ?_) (fun cdv A outer s H vs Q E hr h => ?_)
  · obtain ⟨x, d, kvs, ns, rfl, _⟩ := h
    rfl
  · obtain ⟨x, d, kvs, ns, rfl, hd, hk, q⟩ := h
    refine ⟨_, (pss_cons (ps_set (i := 2) S.nd rfl (Or.inl rfl) pe_int)
      (pss_cons (ps_while (passes_of rfl) (pt_cmp (pc_din (hu_of hr) (pv 2) (pv 1)))
      (pss_one (ps_aug (i := 2) S.nd rfl (Or.inl rfl) pe_int ip_add)))
      (pss_one (ps_ret (pv 2))))), ?_⟩
    refine ⟨fun m σ G => ∃ (n : Nat) (y : Int), m = n ∧ σ = [some x, some (.ref d), some (.int y)] ∧ G = H ∧ y + n = ns.length + 1 ∧ 1 ≤ y ∧ (∀ z, 1 ≤ z → z < y → z ∈ ns) ∧ leastFrom ns n y = leastNot ns, ⟨_, ns.length, 1, rfl, rfl, rfl, by omega, by omega, fun z h1 h2 => by omega, rfl⟩, ?_⟩
    rintro n σ G ⟨_, y, rfl, rfl, rfl, hn, h1, ha, he⟩
    refine ⟨_, rfl, _, rfl, d, _, rfl, DGet.k (k := .inl y) hd, _, rfl, ?_⟩
    rw [hk.val, contains_any]
    cases e : ns.contains y with
    | true =>
      cases n with
      | zero =>
        exfalso
        have hm : y ∈ ns := List.contains_iff_mem.mp e
        exact (leastFrom_not ns 0 y hn h1 ha).1 hm
      | succ n =>
        refine iteT ?_
        refine ⟨fun σ' G' => ∃ y', n = n ∧ σ' = [some x, some (.ref d), some (.int y')] ∧ G' = G ∧ y' + n = ns.length + 1 ∧ 1 ≤ y' ∧ (∀ z, 1 ≤ z → z < y' → z ∈ ns) ∧ leastFrom ns n y' = leastNot ns, fun σ' G' ⟨y', r⟩ => ⟨n, Nat.lt_succ_self _, n, y', r⟩, ?_⟩
        refine ⟨_, rfl, _, _, rfl, rfl, ?_⟩
        refine ⟨y + 1, rfl, rfl, rfl, by omega, by omega, fun z z1 z2 => ?_, ?_⟩
        · by_cases ez : z = y
          · rw [ez]; exact List.contains_iff_mem.mp e
          · exact ha z z1 (by omega)
        · rw [← he]
          show leastFrom ns n (y + 1) = if ns.contains y = true then leastFrom ns n (y + 1) else y
          rw [if_pos e]
    | false =>
      refine iteF ?_
      refine ⟨_, rfl, ?_⟩
      have : leastFrom ns n y = y := by
        cases n with
        | zero => rfl
        | succ n =>
          show (if ns.contains y = true then leastFrom ns n (y + 1) else y) = y
          rw [if_neg (by rw [e]; exact Bool.false_ne_true)]
      rw [← he, this] at q
      exact q
end
end Ba

set_option maxHeartbeats 400000
namespace Ba
open PySem PySem.Spec PyProof.Rows L2
/-! ### the choice of a berth -/
def chooseM (D : Dk) : Option (Int × Dk) :=
  match D.pol with
  | .least => some (leastNot (D.stays.map (·.1)), D)
  | .last => match D.vac.getLast? with
    | some b => some (b, { D with vac := D.vac.dropLast })
    | none => some (leastNot D.used, D)
  | .long _ => match D.vac with
    | b :: r => some (b, { D with vac := r })
    | [] => none
theorem plain_ints : ∀ l : List Int, PyData.plainAll (l.map .int) = true
  | [] => rfl
  | a :: l => by
    show (PyData.plain (.int a) && PyData.plainAll (l.map .int)) = true
    rw [plain_ints l]; rfl
theorem eqv_nil (l : List Int) : PyData.eqv (.list (l.map .int)) (.list []) = l.isEmpty := by cases l <;> rfl
section
variable {P : Program} {w : World} {K : PySem.W.Frag} {mg : Str → Option Value} {base : Heap} {f : Addr} {fd : FuncData}
theorem dp_intL {H : Hp} {a : Addr} {l : List Int} (h : H a = some (.lst (l.map V.int))) : Dp K H (.ref a) (.list (l.map .int)) := .lst (SqL.of h) (dp_ints l)
theorem list_depth (l : List Int) : (PyData.list (l.map .int)).depth ≤ 60 := by
  show PyData.depthAll (l.map .int) + 1 ≤ 60
  rw [PySem.W.depth_ints]; decide
abbrev spDockChoose (CD : Addr) : Sp := Pr fun vs H Q _ => ∃ (a : DA) (D : Dk), vs = [.ref a.p] ∧ DockAt CD H a D ∧
  ∀ H', Kp a.foot H H' → (∀ b D', chooseM D = some (b, D') → DockAt CD H' a D' → Q (.int b) H') ∧ (chooseM D = none → DockAt CD H' a D → Q .non H')
theorem DockAt.foot_ne {CD : Addr} {H : Hp} {a : DA} {D : Dk} (hD : DockAt CD H a D) {p : Addr} (hp : H p = none) : p ∉ a.foot := fun z => by
  obtain ⟨⟨tv, pv, skvs, ukvs, h1, h2, h3, h4, h5, h6, h7, h8⟩, su⟩ := hD
  have z : p = a.p ∨ p = a.sd ∨ p = a.vd ∨ p = a.ud := by simpa [DA.foot] using z
  rcases z with z | z | z | z
  · rw [z, h1] at hp; cases hp
  · rw [z, h4] at hp; cases hp
  · rw [z, h6] at hp; cases hp
  · rw [z, h7] at hp; cases hp
/-- another list of vacated berths -/
theorem DockAt.setVac {CD : Addr} {H : Hp} {a : DA} {D : Dk} (hD : DockAt CD H a D) (vac : List Int) : Kp a.foot H (upd H a.vd (.lst (vac.map V.int))) ∧ DockAt CD (upd H a.vd (.lst (vac.map V.int))) a { D with vac := vac } := by
  obtain ⟨⟨tv, pv, skvs, ukvs, h1, h2, h3, h4, h5, h6, h7, h8⟩, su⟩ := hD
  have kv : Kp a.foot H (upd H a.vd (.lst (vac.map V.int))) := (Kp.refl _).put (by simp [DA.foot]) h6 lst_nt
  have nv : ∀ {b : Addr} {u : HO}, H b = some u → (∀ k, u ≠ .lst k) → b ≠ a.vd := fun {b u} e n z => by rw [z, h6] at e; cases e; exact n _ rfl
  exact ⟨kv, ⟨tv, pv, skvs, ukvs, (upd_ne (nv h1 (fun _ z => nomatch z))).trans h1, h2.kp kv, h3.kp kv, (upd_ne (nv h4 (fun _ z => nomatch z))).trans h4, h5.tk kv.tup, upd_same, (upd_ne (nv h7 (fun _ z => nomatch z))).trans h7, h8⟩, su⟩
theorem ok_Dock_choose {CD : Addr} (c : DockC K CD) (R : RRun mg) (cl_Dock : Cls K CD) (D_Dock_least_unused : MetOk P w K mg base CD "least_unused" 1 p_Dock_least_unused [] spLeastUnused) (F : FunS K "choose" "Dock.choose" s_Dock_choose [] [] f fd) :
    FnOk P w K mg base (L2N.CX P w) 2 f fd p_Dock_choose (spDockChoose CD) := by
  have S := sc_Dock_choose
  refine F.ok S (fun vs H Q E h => ?_) (fun cdv A outer s H vs Q E hr h => ?_)
  · obtain ⟨a, D, rfl, _⟩ := h
    rfl
  · obtain ⟨a, D, rfl, hD, q⟩ := h
    refine ⟨_, (pss_cons (ps_if (pt_cmpR (op_eqP hr.units) (pe_fld (pv 0) rfl) (pe_gstr (z := "least") (by rfl) R.LEAST) (nomark _)) (pss_one (ps_ret (pe_met (pv 0) cl_Dock D_Dock_least_unused (hr.mono (by decide)) passLB (pa_cons (pe_fld (pv 0) rfl) pa_nil)))) pss_nil)
      (pss_cons (ps_if (pt_cmpR (op_eqP hr.units) (pe_fld (pv 0) rfl) (pe_gstr (z := "last") (by rfl) R.LAST) (nomark _)) (pss_one (ps_ret (pe_ifExp (pt_cmpR (op_neP hr.units) (pe_fld (pv 0) rfl) (pe_lst pa_nil) (nomark _)) (pe_bm0 PySem.F.plainAttrs_list PySem.F.slot_list_pop PySem.F.type_list_pop mt_pop (pe_fld (pv 0) rfl)) (pe_met (pv 0) cl_Dock D_Dock_least_unused (hr.mono (by decide)) passLB (pa_cons (pe_fld (pv 0) rfl) pa_nil))))) pss_nil)
      (pss_one (ps_ret (pe_ifExp (pt_cmpR (op_neP hr.units) (pe_fld (pv 0) rfl) (pe_lst pa_nil) (nomark _)) (pe_bm PySem.F.plainAttrs_list PySem.F.slot_list_pop PySem.F.type_list_pop mt_popAt (pe_fld (pv 0) rfl) (pa_cons pe_int pa_nil)) pe_non))))), ?_⟩
    obtain ⟨⟨tv, pv, skvs, ukvs, h1, h2, h3, h4, h5, h6, h7, h8⟩, su⟩ := id hD
    refine ⟨_, rfl, a.p, CD, a.dx, _, _, rfl, h1, c.cls, c.policy, rfl, polD D.pol, .str "least", Tp.dp _ _ h3, .str _, polD_plain _, rfl, polD_depth _, _, rfl, ?_⟩
    cases ep : D.pol with
    | least =>
      refine ⟨_, rfl, a.p, a.dx, _, rfl, h1, rfl, _, rfl, a.p, CD, a.dx, _, _, rfl, h1, c.cls, c.stays, rfl, .ref a.p, a.sd, skvs, _, rfl, h4, h5.keysAt, ?_⟩
      exact (q H (Kp.refl _)).1 _ D (by unfold chooseM; rw [ep]) hD
    | last =>
      refine ⟨_, rfl, a.p, CD, a.dx, _, _, rfl, h1, c.cls, c.policy, rfl, polD .last, .str "last", by rw [← ep]; exact Tp.dp _ _ h3, .str _, polD_plain _, rfl, polD_depth _, _, rfl, ?_⟩
      refine ⟨_, rfl, a.p, CD, a.dx, _, _, rfl, h1, c.cls, c.vacated, rfl, (show (0:Nat) ≤ sizeLine from by decide), fun p hp => ?_⟩
      have k1 : Kp [] H (upd H p (.lst [])) := Kp.new hp
      have hp1 : (upd H p (.lst [])) p = some (.lst (([] : List Int).map V.int)) := upd_same
      generalize upd H p (.lst []) = H1 at k1 hp1 ⊢
      have D1 := hD.kp k1 (by simp)
      obtain ⟨⟨tv', pv', skvs', ukvs', g1, g2, g3, g4, g5, g6, g7, g8⟩, _⟩ := id D1
      refine ⟨_, _, dp_intL g6, dp_intL hp1, plain_ints D.vac, rfl, list_depth _, _, rfl, ?_⟩
      rw [show (([] : List Int).map PyData.int) = [] from rfl, eqv_nil]
      cases ev : D.vac with
      | nil =>
        refine ⟨_, rfl, a.p, a.dx, _, rfl, g1, rfl, _, rfl, a.p, CD, a.dx, _, _, rfl, g1, c.cls, c.used, rfl, .ref a.p, a.ud, ukvs', _, rfl, g7, g8, ?_⟩
        exact (q H1 (k1.mono (by simp))).1 _ D (by unfold chooseM; rw [ep, ev]; rfl) D1
      | cons v0 vr =>
        have hne : D.vac ≠ [] := by rw [ev]; exact List.cons_ne_nil _ _
        have hl : (D.vac.map V.int)[(D.vac.map V.int).length - 1]? = some (V.int (D.vac.getLast hne)) := by
          rw [← List.getLast?_eq_getElem?, List.getLast?_map, List.getLast?_eq_some_getLast hne]
          rfl
        refine ⟨_, rfl, a.p, CD, a.dx, _, _, rfl, g1, c.cls, c.vacated, rfl, .inl ⟨rfl, _, SqL.of g6⟩, a.vd, _, _, rfl, rfl, g6, hl, ?_⟩
        rw [← List.map_dropLast]
        obtain ⟨kv, Dv⟩ := D1.setVac D.vac.dropLast
        exact (q _ ((k1.mono (by simp)).trans kv)).1 _ { D with vac := D.vac.dropLast } (by unfold chooseM; rw [ep]; simp only; rw [List.getLast?_eq_some_getLast hne]) Dv
    | long m =>
      refine ⟨_, rfl, a.p, CD, a.dx, _, _, rfl, h1, c.cls, c.policy, rfl, polD (.long m), .str "last", by rw [← ep]; exact Tp.dp _ _ h3, .str _, polD_plain _, rfl, polD_depth _, _, rfl, ?_⟩
      refine ⟨_, rfl, a.p, CD, a.dx, _, _, rfl, h1, c.cls, c.vacated, rfl, (show (0:Nat) ≤ sizeLine from by decide), fun p hp => ?_⟩
      have k1 : Kp [] H (upd H p (.lst [])) := Kp.new hp
      have hp1 : (upd H p (.lst [])) p = some (.lst (([] : List Int).map V.int)) := upd_same
      generalize upd H p (.lst []) = H1 at k1 hp1 ⊢
      have D1 := hD.kp k1 (by simp)
      obtain ⟨⟨tv', pv', skvs', ukvs', g1, g2, g3, g4, g5, g6, g7, g8⟩, _⟩ := id D1
      refine ⟨_, _, dp_intL g6, dp_intL hp1, plain_ints D.vac, rfl, list_depth _, _, rfl, ?_⟩
      rw [show (([] : List Int).map PyData.int) = [] from rfl, eqv_nil]
      cases ev : D.vac with
      | nil =>
        exact (q H1 (k1.mono (by simp))).2 (by unfold chooseM; rw [ep, ev]) D1
      | cons v0 vr =>
        have g6' : H1 a.vd = some (.lst (V.int v0 :: vr.map V.int)) := by rw [g6, ev]; rfl
        have hsx : seqIndex? 0 (V.int v0 :: vr.map V.int).length = some 0 := by
          unfold seqIndex?
          simp
        refine ⟨_, rfl, a.p, CD, a.dx, _, _, rfl, g1, c.cls, c.vacated, rfl, .inl ⟨rfl, _, SqL.of g6⟩, a.vd, _, 0, 0, _, rfl, rfl, g6', by decide, by decide, hsx, rfl, ?_⟩
        obtain ⟨kv, Dv⟩ := D1.setVac vr
        exact (q _ ((k1.mono (by simp)).trans kv)).1 _ { D with vac := vr } (by unfold chooseM; rw [ep]; simp only; rw [ev]) Dv
end
end Ba

set_option maxHeartbeats 400000
namespace Ba
open PySem PySem.Spec PyProof.Rows L2
/-! ### a call enters -/
def putS (st : List St4) (s : St4) : List St4 := if (st.any fun x => decide (x.1 = s.1)) = true then st.map (fun x => if x.1 = s.1 then s else x) else st ++ [s]
theorem putS_keys (st : List St4) (s : St4) : (putS st s).map (·.1) = putN (st.map (·.1)) s.1 := by
  unfold putS putN
  have e0 : ((st.map (·.1)).any fun x => decide (x = s.1)) = (st.any fun x => decide (x.1 = s.1)) := by rw [List.any_map]; rfl
  rw [e0]
  by_cases e : (st.any fun x => decide (x.1 = s.1)) = true
  · rw [if_pos e, if_pos e, List.map_map]
    refine List.map_congr_left fun x _ => ?_
    show (if x.1 = s.1 then s else x).1 = x.1
    split
    · rename_i h; exact h.symm
    · rfl
  · rw [if_neg e, if_neg e, List.map_append]
    rfl
theorem putN_nd {l : List Int} (h : l.Nodup) (b : Int) : (putN l b).Nodup := by
  unfold putN
  split
  · exact h
  · rename_i e
    rw [List.nodup_append]
    refine ⟨h, by simp, fun x hx y hy z => e ?_⟩
    have hy : y = b := by simpa using hy
    rw [List.any_eq_true]
    exact ⟨x, hx, decide_eq_true (z.trans hy)⟩
theorem putN_len (l : List Int) (b : Int) : (putN l b).length ≤ l.length + 1 := by
  unfold putN
  split
  · omega
  · rw [List.length_append]; exact Nat.le_refl _
theorem putS_len (l : List St4) (b : St4) : (putS l b).length ≤ l.length + 1 := by
  have h := congrArg List.length (putS_keys l b)
  rw [List.length_map] at h
  rw [h]
  have := putN_len (l.map (·.1)) b.1
  rwa [List.length_map] at this
theorem DvAt.putS {H : Hp} {kvs : List (Key × V)} {ss : List St4} {s : St4} {v : V} (h : DvAt H (·.1) stD kvs ss) (t : Tp H v (stD s)) : DvAt H (·.1) stD (putK kvs (.inl s.1) v) (putS ss s) := by
  by_cases e : (ss.any fun x => decide (x.1 = s.1)) = true
  · unfold Ba.putS
    rw [if_pos e]
    have e2 := h.val s.1
    rw [e, ← valV_any] at e2
    unfold putK
    rw [if_pos e2]
    clear e e2
    induction h with
    | nil => exact .nil
    | @cons v0 s0 kvs0 ss0 hv ht ih =>
      rw [List.map_cons, List.map_cons]
      by_cases e : s0.1 = s.1
      · have e3 : (Sum.inl s0.1 : Key) = Sum.inl s.1 := by rw [e]
        rw [if_pos e3, if_pos e]
        show DvAt H _ _ ((Sum.inl s0.1, v) :: _) _
        rw [e3]
        exact .cons t ih
      · rw [if_neg (show ¬ (Sum.inl s0.1 : Key) = Sum.inl s.1 from fun z => e (by injection z)), if_neg e]
        exact .cons hv ih
  · unfold Ba.putS
    rw [if_neg e]
    exact h.put (by rw [← Bool.not_eq_true]; exact e) t
def enterM (D : Dk) (ship : Nat) (delay : Int) : Option (Int × Dk) :=
  match D.ss[ship]? with
  | none => none
  | some (hour, stay) =>
    let t := D.day * D.h + hour
    match chooseM (leaveM D t) with
    | none => none
    | some (b, D2) => some (b, { D2 with stays := putS D2.stays (b, t + stay + delay, t, (ship : Int)), used := putN D2.used b })
theorem chooseM_stays {D D' : Dk} {b : Int} (h : chooseM D = some (b, D')) : D'.stays = D.stays ∧ D'.used = D.used ∧ D'.h = D.h ∧ D'.ss = D.ss ∧ D'.pol = D.pol ∧ D'.day = D.day ∧ D'.vac.length ≤ D.vac.length := by
  unfold chooseM at h
  split at h
  · cases h; exact ⟨rfl, rfl, rfl, rfl, rfl, rfl, Nat.le_refl _⟩
  · split at h
    · cases h; exact ⟨rfl, rfl, rfl, rfl, rfl, rfl, by simp⟩
    · cases h; exact ⟨rfl, rfl, rfl, rfl, rfl, rfl, Nat.le_refl _⟩
  · split at h
    · rename_i e; cases h; exact ⟨rfl, rfl, rfl, rfl, rfl, rfl, by simp [e]⟩
    · cases h
theorem DkOk.choose {N : Nat} {D D' : Dk} {b : Int} (d : DkOk N D) (h : chooseM D = some (b, D')) : DkOk N D' := by
  obtain ⟨h1, h2, _, _, _, _, h3⟩ := chooseM_stays h
  refine ⟨by rw [h1]; exact d.nd, ?_, by rw [h2]; exact d.us⟩
  have := d.sv
  rw [h1]
  omega
theorem DkOk.put {N : Nat} {D : Dk} (d : DkOk N D) (s : St4) : DkOk (N + 1) { D with stays := putS D.stays s, used := putN D.used s.1 } := by
  refine ⟨?_, ?_, ?_⟩
  · show ((putS D.stays s).map (·.1)).Nodup
    rw [putS_keys]
    exact putN_nd d.nd _
  · have := d.sv
    have := putS_len D.stays s
    show (putS D.stays s).length + D.vac.length ≤ N + 1
    omega
  · have := d.us
    have := putN_len D.used s.1
    show (putN D.used s.1).length ≤ N + 1
    omega
theorem DkOk.enter {N : Nat} {D D' : Dk} {b : Int} {ship : Nat} {delay : Int} (d : DkOk N D) (h : enterM D ship delay = some (b, D')) : DkOk (N + 1) D' := by
  unfold enterM at h
  split at h
  · cases h
  · rename_i hour stay e
    simp only at h
    split at h
    · cases h
    · rename_i e2
      cases h
      exact ((d.leave _).choose e2).put (_, _, _, _)
section
variable {P : Program} {w : World} {K : PySem.W.Frag} {mg : Str → Option Value} {base : Heap} {f : Addr} {fd : FuncData}
abbrev spNoRoomInit (CN : Addr) : Sp := Pr fun vs H Q _ => ∃ (a : Addr) (d s : Int), vs = [.ref a, .int d, .int s] ∧ H a = some (exo a CN none) ∧
  ∀ dx, H dx = none → dx ≠ a → ∀ H', (∀ b, b ≠ a → b ≠ dx → H' b = H b) → H' a = some (exo a CN (some dx)) → H' dx = some (exd dx [("ship", .int s), ("on_day", .int d)]) → Q .non H'
structure OexF (K : PySem.W.Frag) (CN : Addr) : Prop where
  T : OexC K CN
  d : PySem.W.findIn K (.ref CN) "on_day" = some none
  s : PySem.W.findIn K (.ref CN) "ship" = some none
theorem ok_NoRoom_init {CN : Addr} (T : OexF K CN) (F : FunS K "__init__" "NoRoom.__init__" s_NoRoom_init [] [] f fd) :
    FnOk P w K mg base (L2N.CX P w) 1 f fd p_NoRoom_init (spNoRoomInit CN) := by
  have S := sc_NoRoom_init
  refine F.ok S (fun vs H Q E h => ?_) (fun cdv A outer s H vs Q E hr h => ?_)
  · obtain ⟨a, d, s, rfl, _⟩ := h
    rfl
  · obtain ⟨a, d, s, rfl, ha, q⟩ := h
    refine ⟨_, (pss_cons (ps_ost (pv 0) (pv 1))
      (pss_one (ps_ost (pv 0) (pv 2)))), ?_⟩
    refine ⟨_, rfl, _, rfl, a, CN, rfl, T.T, T.d, .inl ⟨ha, fun dx hdx hne => ?_⟩⟩
    refine ⟨_, rfl, _, rfl, a, CN, rfl, T.T, T.s, .inr ⟨dx, _, upd_same, (upd_ne hne).trans upd_same, by simp, ?_⟩⟩
    refine q dx hdx hne _ (fun b h1 h2 => ?_) ?_ upd_same
    · rw [upd_ne h2, upd_ne h1, upd_ne h2]
    · rw [upd_ne hne.symm, upd_same]
end
end Ba

set_option maxHeartbeats 400000
namespace Ba
open PySem PySem.Spec PyProof.Rows L2
section
variable {P : Program} {w : World} {K : PySem.W.Frag} {mg : Str → Option Value} {base : Heap} {f : Addr} {fd : FuncData}
def arrT (D : Dk) (ship : Nat) : Int := D.day * D.h + (D.ss[ship]?.getD (0, 0)).1
abbrev spDockEnter (CD CN : Addr) : Sp := Pr fun vs H Q E => ∃ (a : DA) (D : Dk) (ship : Nat) (delay : Int) (N : Nat), vs = [.ref a.p, .int (ship : Int), .int delay] ∧ DockAt CD H a D ∧ DkOk N D ∧ N ≤ 900000 ∧ ship < D.ss.length ∧ 1 ≤ D.h ∧ D.h ≤ 1000 ∧
  (∀ b D' H', enterM D ship delay = some (b, D') → Kp a.foot H H' → DockAt CD H' a D' → Q (.int b) H') ∧
  (∀ d H', enterM D ship delay = none → Kp a.foot H H' → H d = none → H' d = some (.xd [("ship", .int (ship : Int)), ("on_day", .int D.day)]) → DockAt CD H' a (leaveM D (arrT D ship)) → E (.ref CN) (some d) H')
theorem ok_Dock_enter {CD CN : Addr} (c : DockC K CD) (cl_Dock : Cls K CD) (D_NoRoom : OMk P w K mg base "NoRoom" CN 1 p_NoRoom_init (spNoRoomInit CN)) (D_Dock_leave_until : MetOk P w K mg base CD "leave_until" 1 p_Dock_leave_until [] (spDockLeave CD))
    (D_Dock_choose : MetOk P w K mg base CD "choose" 2 p_Dock_choose [] (spDockChoose CD)) (F : FunS K "enter" "Dock.enter" s_Dock_enter [.int 0] [] f fd) :
    FnOk P w K mg base (L2N.CX P w) 3 f fd p_Dock_enter (spDockEnter CD CN) := by
  have S := sc_Dock_enter
  refine F.ok S (fun vs H Q E h => ?_) (fun cdv A outer s H vs Q E hr h => ?_)
  · obtain ⟨a, D, ship, delay, N, rfl, _⟩ := h
    rfl
  · obtain ⟨a, D, ship, delay, N, rfl, hD, hok, hN, hsh, hh1, hh2, q1, q2⟩ := h
    refine ⟨_, (pss_cons (ps_asg (pe_fld (pv 0) rfl) (pg_tup rfl (pgs_cons (pg_name (i := 3) S.nd rfl (Or.inl rfl)) (pgs_cons (pg_name (i := 4) S.nd rfl (Or.inl rfl)) pgs_nil))))
      (pss_cons (ps_asg (pe_ix ix_tup (pv 4) (pv 1) (fun _ _ => rfl)) (pg_tup rfl (pgs_cons (pg_name (i := 5) S.nd rfl (Or.inl rfl)) (pgs_cons (pg_name (i := 6) S.nd rfl (Or.inl rfl)) pgs_nil))))
      (pss_cons (ps_set (i := 7) S.nd rfl (Or.inl rfl) (pe_op op_add (pe_op op_mul (pe_fld (pv 0) rfl) (pv 3)) (pv 5)))
      (pss_cons (ps_expr (pe_met (pv 0) cl_Dock D_Dock_leave_until (hr.mono (by decide)) passLB (pa_cons (pv 7) pa_nil)))
      (pss_cons (ps_set (i := 8) S.nd rfl (Or.inl rfl) (pe_met0 (pv 0) cl_Dock D_Dock_choose (hr.mono (by decide)) passLB))
      (pss_cons (ps_if (pt_cmpR op_isN (pv 8) pe_non (nomark _)) (pss_one (L2N.ps_raise rfl takesB (pmk_x D_NoRoom (hr.mono (by decide)) passLB rfl (pa_cons (pe_fld (pv 0) rfl) (pa_cons (pv 1) pa_nil))))) pss_nil)
      (pss_cons (ps_dput (hu_of hr) (pe_fld (pv 0) rfl) (pv 8) (pe_tup (pa_cons (pe_op op_add (pe_op op_add (pv 7) (pv 6)) (pv 2)) (pa_cons (pe_tup (pa_cons (pv 7) (pa_cons (pv 1) pa_nil))) pa_nil))) rfl)
      (pss_cons (ps_dput (hu_of hr) (pe_fld (pv 0) rfl) (pv 8) pe_bl rfl)
      (pss_one (ps_ret (pv 8))))))))))), ?_⟩
    obtain ⟨⟨tv, pv, skvs, ukvs, h1, h2, h3, h4, h5, h6, h7, h8⟩, su⟩ := id hD
    obtain ⟨ta, tb, xs, rfl, hta, htb, hx⟩ := tp_table h2
    have hxl := tpAll_mlen hx
    obtain ⟨s0, es⟩ : ∃ s0, D.ss[ship]? = some s0 := ⟨_, List.getElem?_eq_getElem hsh⟩
    obtain ⟨x0, ex⟩ : ∃ x0, xs[ship]? = some x0 := ⟨_, List.getElem?_eq_getElem (by omega)⟩
    obtain ⟨s1, es1, ts1⟩ := tpAll_at hx ex
    rw [es] at es1
    cases es1
    obtain ⟨c1, rfl, hc1⟩ := tp_ship ts1
    have eat : arrT D ship = D.day * D.h + s0.1 := by unfold arrT; rw [es]; rfl
    refine ⟨_, rfl, a.p, CD, a.dx, _, _, rfl, h1, c.cls, c.table, rfl, ta, _, rfl, SqT.of hta, rfl, _, _, rfl, _, _, rfl, rfl, ?_⟩
    refine ⟨_, rfl, _, rfl, tb, xs, _, _, rfl, rfl, SqT.of htb, atI_nat ex, c1, _, rfl, SqT.of hc1, rfl, _, _, rfl, _, _, rfl, rfl, ?_⟩
    refine ⟨_, rfl, a.p, CD, a.dx, _, _, rfl, h1, c.cls, c.today, rfl, _, rfl, _, _, rfl, rfl, .inr ⟨by omega, by omega⟩, _, rfl, _, _, rfl, rfl, ?_⟩
    refine ⟨_, rfl, a.p, a.dx, _, rfl, h1, rfl, _, rfl, a, D, _, N, rfl, hD, hok, by omega, fun H1 k1 D1 => ?_⟩
    obtain ⟨⟨tv1, pv1, skvs1, ukvs1, g1, g2, g3, g4, g5, g6, g7, g8⟩, _⟩ := id D1
    refine ⟨_, rfl, a.p, a.dx, _, rfl, g1, rfl, a, _, rfl, D1, fun H2 k2 => ⟨fun b D2 e2 D2a => ?_, fun e2 D2a => ?_⟩⟩
    · refine ⟨_, rfl, rfl, _, rfl, ?_⟩
      have ok2 := (hok.leave (D.day * D.h + s0.1)).choose e2
      obtain ⟨⟨tv2, pv2, skvs2, ukvs2, i1, i2, i3, i4, i5, i6, i7, i8⟩, _⟩ := id D2a
      have hsz : (2000000 : Nat) < sizeLine := by decide
      refine iteF' (decide_eq_false (fun z => nomatch z)) ?_
      -- self.stays[berth] = ..
      refine ⟨_, rfl, _, rfl, _, _, rfl, rfl, _, rfl, _, _, rfl, rfl, _, rfl, _, rfl, (show (2:Nat) ≤ sizeLine from by decide), fun t1 ht1 => ⟨(show (2:Nat) ≤ sizeLine from by decide), fun t2 ht2 => ?_⟩⟩
      generalize hH3 : upd (upd H2 t1 _) t2 _ = H3
      have k3 : Kp [] H2 H3 := by rw [← hH3]; exact (Kp.new ht1).trans (Kp.new ht2)
      have tt : Tp H3 (.ref t2) (stD (b, D.day * D.h + s0.1 + s0.2 + delay, D.day * D.h + s0.1, (ship : Int))) := by
        rw [← hH3]
        exact .tup upd_same (.cons (.int _) (.cons (.tup ((TK.new ht2) _ _ upd_same) (.cons (.int _) (.cons (.int _) .nil))) .nil))
      have D3 := D2a.kp k3 (by simp)
      obtain ⟨⟨tv3, pv3, skvs3, ukvs3, j1, j2, j3, j4, j5, j6, j7, j8⟩, _⟩ := id D3
      have hl3 : skvs3.length < sizeLine := by
        rw [j5.len]
        have := ok2.sv
        omega
      have hu3 : ukvs3.length < sizeLine := by
        rw [j8.len]
        have := ok2.us
        omega
      refine ⟨_, rfl, a.p, CD, a.dx, _, _, rfl, j1, c.cls, c.stays, rfl, _, rfl, a.sd, _, rfl, DPut.k (k := .inl b) j4 hl3, ?_⟩
      have kd : Kp a.foot H3 (upd H3 a.sd (.dK (putK skvs3 (.inl b) (.ref t2)))) := (Kp.refl _).put (by simp [DA.foot]) j4 dK_nt
      have ns : ∀ {x : Addr} {u : HO}, H3 x = some u → (∀ k, u ≠ .dK k) → x ≠ a.sd := fun {x u} e n z => by rw [z, j4] at e; cases e; exact n _ rfl
      have G1 := (upd_ne (H := H3) (o := .dK (putK skvs3 (.inl b) (.ref t2))) (ns j1 (fun _ z => nomatch z))).trans j1
      have G4 : (upd H3 a.sd (.dK (putK skvs3 (.inl b) (.ref t2)))) a.sd = _ := upd_same
      have G6 := (upd_ne (H := H3) (o := .dK (putK skvs3 (.inl b) (.ref t2))) (ns j6 (fun _ z => nomatch z))).trans j6
      have G7 := (upd_ne (H := H3) (o := .dK (putK skvs3 (.inl b) (.ref t2))) su.symm).trans j7
      have G5 := (j5.putS (s := (b, D.day * D.h + s0.1 + s0.2 + delay, D.day * D.h + s0.1, (ship : Int))) tt).tk kd.tup
      have j2' := j2.kp kd
      have j3' := j3.kp kd
      generalize upd H3 a.sd (.dK (putK skvs3 (.inl b) (.ref t2))) = H4 at kd G1 G4 G5 G6 G7 j2' j3' ⊢
      refine ⟨_, rfl, a.p, CD, a.dx, _, _, rfl, G1, c.cls, c.used, rfl, _, rfl, a.ud, _, rfl, DPut.k (k := .inl b) G7 hu3, ?_⟩
      have ku : Kp a.foot H4 (upd H4 a.ud (.dK (putK ukvs3 (.inl b) (.bl true)))) := (Kp.refl _).put (by simp [DA.foot]) G7 dK_nt
      have nu : ∀ {x : Addr} {u : HO}, H4 x = some u → (∀ k, u ≠ .dK k) → x ≠ a.ud := fun {x u} e n z => by rw [z, G7] at e; cases e; exact n _ rfl
      refine ⟨_, rfl, ?_⟩
      refine q1 b { D2 with stays := putS D2.stays (b, D.day * D.h + s0.1 + s0.2 + delay, D.day * D.h + s0.1, (ship : Int)), used := putN D2.used b } _ ?_ ?_ ⟨⟨tv3, pv3, _, _, (upd_ne (nu G1 (fun _ z => nomatch z))).trans G1, j2'.kp ku, j3'.kp ku, (upd_ne su).trans G4, G5.tk ku.tup, (upd_ne (nu G6 (fun _ z => nomatch z))).trans G6, upd_same, j8.put b (.bl true)⟩, su⟩
      · unfold enterM
        rw [es]
        simp only
        rw [e2]
      · exact (((k1.trans k2).trans (k3.mono (by simp))).trans kd).trans ku
    · refine ⟨_, rfl, rfl, _, rfl, ?_⟩
      refine iteT' (decide_eq_true rfl) ?_
      obtain ⟨⟨tv2, pv2, skvs2, ukvs2, i1, i2, i3, i4, i5, i6, i7, i8⟩, _⟩ := id D2a
      refine ⟨_, rfl, a.p, CD, a.dx, _, _, rfl, i1, c.cls, c.today, rfl, _, rfl, by simp, fun x hx => ⟨x, _, _, rfl, upd_same, fun dx hdx hne H' f1 f2 f3 => ⟨rfl, dx, _, f2, f3, by rw [upd_ne hne] at hdx; exact hdx, ?_⟩⟩⟩
      have hdx2 : H2 dx = none := by rw [upd_ne hne] at hdx; exact hdx
      have kk : Kp a.foot H2 (upd (del H' x) dx (.xd [("ship", .int (ship : Int)), ("on_day", .int D.day)])) := by
        have hk : ∀ b o, H2 b = some o → (upd (del H' x) dx (.xd [("ship", .int (ship : Int)), ("on_day", .int D.day)])) b = some o := fun b o e => by
          have b1 : b ≠ x := fun z => by rw [z, hx] at e; cases e
          have b2 : b ≠ dx := fun z => by rw [z, hdx2] at e; cases e
          rw [upd_ne b2, del_ne b1, f1 b b1 b2, upd_ne b1]
          exact e
        exact ⟨fun b o e _ => hk b o e, fun b ys e => hk b _ e, fun b _ _ e => hk b _ e⟩
      have kA := k1.trans k2
      have hdH : H dx = none := kA.freeS hdx2 (D2a.foot_ne hdx2)
      refine q2 dx _ ?_ (kA.trans kk) hdH upd_same ?_
      · unfold enterM
        rw [es]
        simp only
        rw [e2]
      · rw [eat]
        have hk : ∀ b o, H2 b = some o → (upd (del H' x) dx (.xd [("ship", .int (ship : Int)), ("on_day", .int D.day)])) b = some o := fun b o e => by
          have b1 : b ≠ x := fun z => by rw [z, hx] at e; cases e
          have b2 : b ≠ dx := fun z => by rw [z, hdx2] at e; cases e
          rw [upd_ne b2, del_ne b1, f1 b b1 b2, upd_ne b1]
          exact e
        exact D2a.kp (S := []) ⟨fun b o e _ => hk b o e, fun b ys e => hk b _ e, fun b _ _ e => hk b _ e⟩ (by simp)
end
end Ba

set_option maxHeartbeats 400000
namespace Ba
open PySem PySem.Spec PyProof.Rows L2
/-! ### days -/
def endM (D : Dk) : Dk := leaveM { D with day := D.day + 1 } ((D.day + 1) * D.h - 1)
abbrev Cl3 := Int × Int × Int
def encC (c : Cl3) : PyData := .tuple [.int c.1, .int c.2.1, .int c.2.2]
def stepM (st : Option (List Cl3 × Dk)) (s : Int) : Option (List Cl3 × Dk) := st.bind fun p => (enterM p.2 s.toNat 0).map fun q => (p.1 ++ [(p.2.day, s, q.1)], q.2)
def runM (D : Dk) (l : List Int) : Option (List Cl3 × Dk) := l.foldl stepM (some ([], D))
theorem run_none (l : List Int) : l.foldl stepM none = none := by
  induction l with
  | nil => rfl
  | cons a l ih => exact ih
theorem run_take (D : Dk) (l : List Int) {i : Nat} {s : Int} (h : l[i]? = some s) : runM D (l.take (i + 1)) = stepM (runM D (l.take i)) s := by
  unfold runM
  rw [List.take_add_one, h, List.foldl_append]
  rfl
theorem run_prefix {D : Dk} {l : List Int} {r : List Cl3 × Dk} (h : runM D l = some r) (i : Nat) : ∃ q, runM D (l.take i) = some q := by
  unfold runM at h ⊢
  rw [← List.take_append_drop i l, List.foldl_append] at h
  cases e : (l.take i).foldl stepM (some ([], D)) with
  | none => rw [e, run_none] at h; cases h
  | some q => exact ⟨q, rfl⟩
theorem ordM_mem {ss : List (Int × Int)} {e : Int × Int} (h : e ∈ ordM ss) : ∃ k : Nat, k < ss.length ∧ e.2 = (k : Int) := by
  have h := (List.mergeSort_perm _ _).mem_iff.mp h
  obtain ⟨i, hi, rfl⟩ := List.getElem_of_mem h
  rw [List.length_mapIdx] at hi
  exact ⟨i, hi, by rw [List.getElem_mapIdx]⟩
structure SameT (D D' : Dk) : Prop where
  h : D'.h = D.h
  ss : D'.ss = D.ss
  pol : D'.pol = D.pol
  day : D'.day = D.day
theorem SameT.enter {D D' : Dk} {b delay : Int} {ship : Nat} (h : enterM D ship delay = some (b, D')) : SameT D D' := by
  unfold enterM at h
  split at h
  · cases h
  · simp only at h
    split at h
    · cases h
    · rename_i e2
      cases h
      obtain ⟨_, _, h3, h4, h5, h6, _⟩ := chooseM_stays e2
      exact ⟨h3, h4, h5, h6⟩
theorem step_some {st : Option (List Cl3 × Dk)} {s : Int} {r : List Cl3 × Dk} (h : stepM st s = some r) : ∃ cs D b D', st = some (cs, D) ∧ enterM D s.toNat 0 = some (b, D') ∧ r = (cs ++ [(D.day, s, b)], D') := by
  unfold stepM at h
  cases st with
  | none => cases h
  | some p =>
    obtain ⟨cs, D⟩ := p
    have h : (enterM D s.toNat 0).map (fun q => (cs ++ [(D.day, s, q.1)], q.2)) = some r := h
    cases e : enterM D s.toNat 0 with
    | none => rw [e] at h; cases h
    | some q =>
      rw [e] at h
      cases h
      exact ⟨cs, D, q.1, q.2, rfl, e, rfl⟩
theorem run_ok {N : Nat} {D : Dk} (d : DkOk N D) (l : List Int) : ∀ {i : Nat} {cs : List Cl3} {D' : Dk}, i ≤ l.length → runM D (l.take i) = some (cs, D') → DkOk (N + i) D' ∧ SameT D D' ∧ cs.length = i
  | 0, cs, D', _, h => by
    have h : some ([], D) = some (cs, D') := h
    cases h
    exact ⟨d, ⟨rfl, rfl, rfl, rfl⟩, rfl⟩
  | i + 1, cs, D', hi, h => by
    obtain ⟨s, es⟩ : ∃ s, l[i]? = some s := ⟨_, List.getElem?_eq_getElem (by omega)⟩
    rw [run_take D l es] at h
    obtain ⟨cs0, D0, b, D1, e1, e2, e3⟩ := step_some h
    cases e3
    obtain ⟨k1, k2, k3⟩ := run_ok d l (by omega) e1
    have k4 := SameT.enter e2
    exact ⟨k1.enter e2, ⟨k4.h.trans k2.h, k4.ss.trans k2.ss, k4.pol.trans k2.pol, k4.day.trans k2.day⟩, by rw [List.length_append, k3]; rfl⟩
section
variable {P : Program} {w : World} {K : PySem.W.Frag} {mg : Str → Option Value} {base : Heap} {f : Addr} {fd : FuncData}
abbrev spDockEnd (CD : Addr) : Sp := Pr fun vs H Q _ => ∃ (a : DA) (D : Dk) (N : Nat), vs = [.ref a.p] ∧ DockAt CD H a D ∧ DkOk N D ∧ N ≤ 1000000 ∧ 1 ≤ D.h ∧ D.h ≤ 1000 ∧
  ∀ H', Kp a.foot H H' → DockAt CD H' a (endM D) → Q .non H'
theorem DockAt.setDay {CD : Addr} {H : Hp} {a : DA} {D : Dk} (hD : DockAt CD H a D) (day : Int) {tv pv : V} (h1 : H a.p = some (.ins CD a.dx (dkF tv pv D.day a))) : Kp a.foot H (upd H a.p (.ins CD a.dx (dkF tv pv day a))) ∧ DockAt CD (upd H a.p (.ins CD a.dx (dkF tv pv day a))) a { D with day := day } := by
  obtain ⟨⟨tv', pv', skvs, ukvs, h1', h2, h3, h4, h5, h6, h7, h8⟩, su⟩ := hD
  rw [h1] at h1'
  have e1 : tv = tv' ∧ pv = pv' := by
    injection h1' with z
    injection z with _ _ z
    unfold dkF at z
    injection z with z1 z
    injection z with z2 z
    injection z1 with _ z1
    injection z2 with _ z2
    exact ⟨z1, z2⟩
  obtain ⟨rfl, rfl⟩ := e1
  have kv : Kp a.foot H (upd H a.p (.ins CD a.dx (dkF tv pv day a))) := (Kp.refl _).put (by simp [DA.foot]) h1 ins_nt
  have nv : ∀ {b : Addr} {u : HO}, H b = some u → (∀ C d k, u ≠ .ins C d k) → b ≠ a.p := fun {b u} e n z => by rw [z, h1] at e; cases e; exact n _ _ _ rfl
  exact ⟨kv, ⟨tv, pv, skvs, ukvs, upd_same, h2.kp kv, h3.kp kv, (upd_ne (nv h4 (fun _ _ _ z => nomatch z))).trans h4, h5.tk kv.tup, (upd_ne (nv h6 (fun _ _ _ z => nomatch z))).trans h6, (upd_ne (nv h7 (fun _ _ _ z => nomatch z))).trans h7, h8⟩, su⟩
theorem ok_Dock_end_day {CD : Addr} (c : DockC K CD) (cl_Dock : Cls K CD) (D_Dock_leave_until : MetOk P w K mg base CD "leave_until" 1 p_Dock_leave_until [] (spDockLeave CD)) (F : FunS K "end_day" "Dock.end_day" s_Dock_end_day [] [] f fd) :
    FnOk P w K mg base (L2N.CX P w) 2 f fd p_Dock_end_day (spDockEnd CD) := by
  have S := sc_Dock_end_day
  refine F.ok S (fun vs H Q E h => ?_) (fun cdv A outer s H vs Q E hr h => ?_)
  · obtain ⟨a, D, N, rfl, _⟩ := h
    rfl
  · obtain ⟨a, D, N, rfl, hD, hok, hN, hh1, hh2, q⟩ := h
    refine ⟨_, (pss_cons (ps_set (i := 1) S.nd rfl (Or.inl rfl) (pe_ix ix_tup (pe_fld (pv 0) rfl) pe_int (fun _ _ => rfl)))
      (pss_cons (ps_fldaug (pv 0) pe_int in_add)
      (pss_one (ps_expr (pe_met (pv 0) cl_Dock D_Dock_leave_until (hr.mono (by decide)) passLB (pa_cons (pe_op op_sub (pe_op op_mul (pe_fld (pv 0) rfl) (pv 1)) pe_int) pa_nil)))))), ?_⟩
    obtain ⟨⟨tv, pv, skvs, ukvs, h1, h2, h3, h4, h5, h6, h7, h8⟩, su⟩ := id hD
    obtain ⟨ta, tb, xs, rfl, hta, htb, hx⟩ := tp_table h2
    refine ⟨_, rfl, a.p, CD, a.dx, _, _, rfl, h1, c.cls, c.table, rfl, ta, _, _, _, rfl, rfl, SqT.of hta, rfl, ?_⟩
    refine ⟨_, rfl, a.p, CD, a.dx, _, _, rfl, h1, c.cls, c.today, rfl, _, _, rfl, rfl, _, _, h1, (show (6:Nat) < 1000 from by decide), ?_⟩
    obtain ⟨kd, Dd⟩ := hD.setDay (D.day + 1) h1
    obtain ⟨⟨tv1, pv1, skvs1, ukvs1, g1, g2, g3, g4, g5, g6, g7, g8⟩, _⟩ := id Dd
    have okd : DkOk N { D with day := D.day + 1 } := ⟨hok.nd, hok.sv, hok.us⟩
    refine ⟨_, rfl, a.p, a.dx, _, rfl, g1, rfl, _, rfl, a.p, CD, a.dx, _, _, rfl, g1, c.cls, c.today, rfl, _, rfl, _, _, rfl, rfl, .inr ⟨by omega, by omega⟩, _, _, rfl, rfl, a, { D with day := D.day + 1 }, _, N, rfl, Dd, okd, hN, fun H1 k1 D1 => ?_⟩
    exact q H1 (kd.trans k1) D1
end
end Ba

set_option maxHeartbeats 400000
namespace Ba
open PySem PySem.Spec PyProof.Rows L2
theorem mem_one {x y : Addr} {S : List Addr} (z : x ∈ [y]) (h : x ∈ S) : y ∈ S := by
  have z : x = y := by simpa using z
  rw [← z]; exact h
section
variable {P : Program} {w : World} {K : PySem.W.Frag} {mg : Str → Option Value} {base : Heap} {f : Addr} {fd : FuncData}
def arrL (ss : List (Int × Int)) : List Int := (ordM ss).map (·.2)
theorem arrL_len (ss : List (Int × Int)) : (arrL ss).length = ss.length := by rw [arrL, List.length_map, ordM_length]
theorem arrL_mem {ss : List (Int × Int)} {s : Int} (h : s ∈ arrL ss) : ∃ k : Nat, k < ss.length ∧ s = (k : Int) := by
  obtain ⟨e, he, rfl⟩ := List.mem_map.mp h
  exact ordM_mem he
/-- one day; the calls, the dock behind it -/
def dayM (D : Dk) : Option (List Cl3 × Dk) := (runM D (arrL D.ss)).map fun r => (r.1, endM r.2)
/-- the first call of the day without a berth -/
def LackL (D : Dk) (e : Int) : Prop := ∃ i cs Di, runM D ((arrL D.ss).take i) = some (cs, Di) ∧ (arrL D.ss)[i]? = some e ∧ enterM Di e.toNat 0 = none
theorem lack_none {D : Dk} {i : Nat} {cs : List Cl3} {Di : Dk} {e : Int} (h1 : runM D ((arrL D.ss).take i) = some (cs, Di)) (h2 : (arrL D.ss)[i]? = some e) (h3 : enterM Di e.toNat 0 = none) : runM D ((arrL D.ss).take (i + 1)) = none := by
  rw [run_take D (arrL D.ss) h2, h1]
  show ((enterM Di e.toNat 0).map _) = none
  rw [h3]
  rfl
theorem run_none_of {D : Dk} {i j : Nat} (h : runM D ((arrL D.ss).take i) = none) (hj : i ≤ j) : runM D ((arrL D.ss).take j) = none := by
  have e : (arrL D.ss).take j = (arrL D.ss).take i ++ ((arrL D.ss).take j).drop i := by
    have z := (List.take_append_drop i ((arrL D.ss).take j)).symm
    rwa [List.take_take, Nat.min_eq_left hj] at z
  rw [e]
  unfold runM at h ⊢
  rw [List.foldl_append, h, run_none]
theorem lack_day {D : Dk} {e : Int} (h : LackL D e) : dayM D = none := by
  obtain ⟨i, cs, Di, h1, h2, h3⟩ := h
  have h4 := lack_none h1 h2 h3
  have hi := (List.getElem?_eq_some_iff.mp h2).1
  have h5 := run_none_of h4 (show i + 1 ≤ (arrL D.ss).length from hi)
  rw [List.take_length] at h5
  unfold dayM
  rw [h5]
  rfl
theorem lack_one {D : Dk} {e e' : Int} (h : LackL D e) (h' : LackL D e') : e = e' := by
  obtain ⟨i, cs, Di, h1, h2, h3⟩ := h
  obtain ⟨j, cs', Dj, g1, g2, g3⟩ := h'
  have hij : i = j := by
    rcases Nat.lt_trichotomy i j with z | z | z
    · have := run_none_of (lack_none h1 h2 h3) (show i + 1 ≤ j from z)
      rw [g1] at this
      cases this
    · exact z
    · have := run_none_of (lack_none g1 g2 g3) (show j + 1 ≤ i from z)
      rw [h1] at this
      cases this
  subst hij
  rw [h2] at g2
  cases g2
  rfl
abbrev spDockDay (CD CN : Addr) : Sp := Pr fun vs H Q E => ∃ (a : DA) (D : Dk) (N : Nat), vs = [.ref a.p] ∧ DockAt CD H a D ∧ DkOk N D ∧ N ≤ 800000 ∧ TabOk D.h D.ss ∧
  (∀ (D1 : Dk) (cs : List Cl3) (p : Addr) (xs : List V) (H' : Hp), dayM D = some (cs, D1) → H p = none → p ∉ a.foot → Kp a.foot H H' → H' p = some (.lst xs) → TpAll H' xs (cs.map encC) → DockAt CD H' a D1 → Q (.ref p) H') ∧
  (∀ (e : Int) (d : Addr) (H' : Hp), LackL D e → Kp a.foot H H' → H d = none → H' d = some (.xd [("ship", .int e), ("on_day", .int D.day)]) → E (.ref CN) (some d) H')
theorem ok_Dock_next_day {CD CN : Addr} (c : DockC K CD) (cl_Dock : Cls K CD) (D_arrival_order : DefOk P w K mg base "arrival_order" 1 p_arrival_order [] spArrOrder)
    (D_Dock_enter : MetOk P w K mg base CD "enter" 3 p_Dock_enter [.int 0] (spDockEnter CD CN)) (D_Dock_end_day : MetOk P w K mg base CD "end_day" 2 p_Dock_end_day [] (spDockEnd CD)) (F : FunS K "next_day" "Dock.next_day" s_Dock_next_day [] [] f fd) :
    FnOk P w K mg base (L2N.CX P w) 4 f fd p_Dock_next_day (spDockDay CD CN) := by
  have S := sc_Dock_next_day
  refine F.ok S (fun vs H Q E h => ?_) (fun cdv A outer s H vs Q E hr h => ?_)
  · obtain ⟨a, D, N, rfl, _⟩ := h
    rfl
  · obtain ⟨a, D, N, rfl, hD, hok, hN, htab, q, q2⟩ := h
    refine ⟨_, (pss_cons (ps_setLcE (i := 1) (own := [("ship", 2)]) (g := (gName 2)) (tt := tYes) rfl S.nd rfl rfl takesB rfl rfl (sw_true rfl rfl rfl (by decide +kernel)) (pi_list (pe_fn D_arrival_order (hr.mono (by decide)) passLB rfl (pa_cons (pe_fld (pv 0) rfl) pa_nil))) (blkOk_by (own := [("ship", 2)]) (N := n_Dock_next_day) (sc := defScope s_Dock_next_day) (by decide +kernel)) (fun _ _ _ _ _ => (pg_name (i := 2) S.nd rfl (Or.inl rfl))) (fun _ _ _ _ _ => pts_nil) (fun _ _ _ _ _ => (pe_tup (pa_cons (pe_fldB (K := K) rfl (pv 0) rfl) (pa_cons (pv 2) (pa_cons (pe_met (pv 0) cl_Dock D_Dock_enter (hr.mono (by decide)) passBE (pa_cons (pv 2) pa_nil)) pa_nil))))))
      (pss_cons (ps_expr (pe_met0 (pv 0) cl_Dock D_Dock_end_day (hr.mono (by decide)) passLB))
      (pss_one (ps_ret (pv 1))))), ?_⟩
    obtain ⟨⟨tv, pv, skvs, ukvs, h1, h2, h3, h4, h5, h6, h7, h8⟩, su⟩ := id hD
    have hn := htab.n
    refine ⟨_, rfl, a.p, CD, a.dx, _, _, rfl, h1, c.cls, c.table, rfl, tv, D.h, D.ss, rfl, h2, htab, fun p H1 hp k1 hp1 => ?_⟩
    have e1 : ((ordM D.ss).map fun e => V.int e.2) = (arrL D.ss).map V.int := by rw [arrL, List.map_map]; rfl
    rw [e1] at hp1
    have D1 := hD.kp k1 (by simp)
    have hpf : p ∉ a.foot := hD.foot_ne hp
    refine ⟨p, rfl, ⟨_, SqL.of hp1⟩, fun L hL => lc_it (walk_list (K := K) (a := p) (xs := (arrL D.ss).map V.int)) (fun i H => ∃ (acc : List V) (cs : List Cl3) (Di : Dk), runM D ((arrL D.ss).take i) = some (cs, Di) ∧ H L = some (.lst acc) ∧ acc.length = i ∧ TpAll H acc (cs.map encC) ∧ Kp a.foot H1 H ∧ DockAt CD H a Di)
      ⟨[], [], D, rfl, upd_same, rfl, .nil, Kp.new hL, D1.kp (S := []) (Kp.new hL) (by simp)⟩ ?_ ?_ ?_⟩
    · rintro i H4 hi ⟨acc, cs, Di, _, _, _, _, k4, _⟩
      exact SqL.of (k4.keep _ _ hp1 hpf)
    · rintro i x H4 H5 hi ⟨acc, cs, Di, hri, hacc, hal, hT, k4, D4⟩ ⟨rfl, hx⟩
      rw [List.length_map, arrL_len] at hi
      rw [List.getElem?_map] at hx
      obtain ⟨s, es⟩ : ∃ s, (arrL D.ss)[i]? = some s := ⟨_, List.getElem?_eq_getElem (by rw [arrL_len]; exact hi)⟩
      rw [es] at hx
      cases hx
      obtain ⟨k, hk, rfl⟩ := arrL_mem (List.mem_of_getElem? es)
      refine ⟨wipe1 (by decide), ?_⟩
      obtain ⟨ok4, st4, _⟩ := run_ok hok (arrL D.ss) (by rw [arrL_len]; omega) hri
      have hr1 := run_take D (arrL D.ss) es
      rw [hri] at hr1
      obtain ⟨⟨tv4, pv4, skvs4, ukvs4, g1, g2, g3, g4, g5, g6, g7, g8⟩, _⟩ := id D4
      refine ⟨_, rfl, a.p, CD, a.dx, _, _, rfl, g1, c.cls, c.today, rfl, _, rfl, _, rfl, a.p, a.dx, _, rfl, g1, rfl, _, rfl, a, Di, k, 0, N + i, rfl, D4, ok4, by omega, by rw [st4.ss]; exact hk, by rw [st4.h]; exact htab.h1, by rw [st4.h]; exact htab.h2, fun b D2 H' e5 k5 D5 => ?_, fun d H' e5 k5 hd ed D5 => ?_⟩
      · have hr1 : runM D ((arrL D.ss).take (i + 1)) = some (cs ++ [(Di.day, (k : Int), b)], D2) := by
          rw [hr1]
          show ((enterM Di ((k : Int)).toNat 0).map _) = _
          rw [show (k : Int).toNat = k from rfl, e5]
          rfl
        refine ⟨(show (3:Nat) ≤ sizeLine from by decide), fun t ht => ?_⟩
        have hLf : L ∉ a.foot := D1.foot_ne hL
        have hacc5 := k5.keep _ _ hacc hLf
        have kt : Kp [] H' (upd H' t (.tup [.int Di.day, .int (k : Int), .int b])) := Kp.new ht
        have hacc6 := kt.keep _ _ hacc5 (by simp)
        have kw : Kp [L] (upd H' t (.tup [.int Di.day, .int (k : Int), .int b])) (upd (upd H' t (.tup [.int Di.day, .int (k : Int), .int b])) L (.lst (acc ++ [.ref t]))) := (Kp.refl _).put (by simp) hacc6 lst_nt
        have hsz : (2000000 : Nat) < sizeLine := by decide
        refine ⟨acc, hacc6, by omega, acc ++ [.ref t], _, _, hr1, upd_same, by rw [List.length_append, hal]; rfl, ?_, ?_, ?_⟩
        · rw [List.map_append]
          exact (((hT.kp k5).kp kt).kp kw).append (.cons (.tup (kw.tup _ _ upd_same) (.cons (.int _) (.cons (.int _) (.cons (.int _) .nil)))) .nil)
        · refine Kp.less (S := L :: a.foot) ((k4.mono (by simp +contextual)).trans ((k5.mono (by simp +contextual)).trans ((kt.mono (by simp)).trans (kw.mono (by simp))))) (fun b hb => ?_)
          rcases List.mem_cons.mp hb with rfl | hb
          · exact .inr hL
          · exact .inl hb
        · exact (D5.kp kt (by simp)).kp kw (fun x hx z => hLf (mem_one z hx))
      · have e6 : enterM Di ((k : Int)).toNat 0 = none := e5
        have hd4 : d ∉ a.foot := D4.foot_ne hd
        rw [st4.day] at ed
        exact q2 (k : Int) d H' ⟨i, cs, Di, hri, es, e6⟩ ((k1.mono (by simp)).trans (k4.trans k5)) (k1.free (k4.freeS hd hd4)) ed
    · rintro H4 ⟨acc, cs', Di, hri, hacc, hal, hT, k4, D4⟩
      rw [List.length_map, List.take_length] at hri
      obtain ⟨ok4, st4, _⟩ := run_ok hok (arrL D.ss) (Nat.le_refl _) (by rw [List.take_length]; exact hri)
      rw [arrL_len] at ok4
      obtain ⟨⟨tv4, pv4, skvs4, ukvs4, g1, g2, g3, g4, g5, g6, g7, g8⟩, _⟩ := id D4
      refine ⟨_, rfl, a.p, a.dx, _, rfl, g1, rfl, a, Di, _, rfl, D4, ok4, by omega, by rw [st4.h]; exact htab.h1, by rw [st4.h]; exact htab.h2, fun H5 k5 D5 => ?_⟩
      refine ⟨_, rfl, ?_⟩
      have hLf : L ∉ a.foot := D1.foot_ne hL
      exact q (endM Di) cs' L acc H5 (by unfold dayM; rw [hri]; rfl) (k1.free hL) hLf ((k1.mono (by simp)).trans (k4.trans k5)) (k5.keep _ _ hacc hLf) (hT.kp k5) D5
/-- another table -/
abbrev spDockSwitch (CD : Addr) : Sp := Pr fun vs H Q _ => ∃ (a : DA) (D : Dk) (v : V) (h : Int) (ss : List (Int × Int)), vs = [.ref a.p, v] ∧ DockAt CD H a D ∧ Tp H v (tbD h ss) ∧
  ∀ H', Kp a.foot H H' → DockAt CD H' a { D with h := h, ss := ss } → Q .non H'
theorem ok_Dock_switch {CD : Addr} (c : DockC K CD) (F : FunS K "switch" "Dock.switch" s_Dock_switch [] [] f fd) :
    FnOk P w K mg base (L2N.CX P w) 1 f fd p_Dock_switch (spDockSwitch CD) := by
  have S := sc_Dock_switch
  refine F.ok S (fun vs H Q E h => ?_) (fun cdv A outer s H vs Q E hr h => ?_)
  · obtain ⟨a, D, v, h, ss, rfl, _⟩ := h
    rfl
  · obtain ⟨a, D, v, h, ss, rfl, hD, hv, q⟩ := h
    refine ⟨_, (pss_one (ps_fld (pv 0) (pv 1) rfl)), ?_⟩
    obtain ⟨⟨tv, pv, skvs, ukvs, h1, h2, h3, h4, h5, h6, h7, h8⟩, su⟩ := id hD
    refine ⟨_, rfl, _, rfl, a.p, CD, a.dx, _, rfl, h1, c.cls, c.table, (show (6:Nat) < 1000 from by decide), ?_⟩
    have kv : Kp a.foot H (upd H a.p (.ins CD a.dx (dkF v pv D.day a))) := (Kp.refl _).put (by simp [DA.foot]) h1 ins_nt
    have nv : ∀ {b : Addr} {u : HO}, H b = some u → (∀ C d k, u ≠ .ins C d k) → b ≠ a.p := fun {b u} e n z => by rw [z, h1] at e; cases e; exact n _ _ _ rfl
    exact q _ kv ⟨⟨v, pv, skvs, ukvs, upd_same, hv.kp kv, h3.kp kv, (upd_ne (nv h4 (fun _ _ _ z => nomatch z))).trans h4, h5.tk kv.tup, (upd_ne (nv h6 (fun _ _ _ z => nomatch z))).trans h6, (upd_ne (nv h7 (fun _ _ _ z => nomatch z))).trans h7, h8⟩, su⟩
end
end Ba

set_option maxHeartbeats 400000
namespace Ba
open PySem PySem.Spec PyProof.Rows L2
theorem plain_pairs : ∀ l : List (Int × Int), PyData.plainAll (l.map shD) = true
  | [] => rfl
  | a :: l => by
    show (PyData.plain (shD a) && PyData.plainAll (l.map shD)) = true
    rw [plain_pairs l]; rfl
theorem depth_pairs : ∀ l : List (Int × Int), PyData.depthAll (l.map shD) ≤ 1
  | [] => by simp [PyData.depthAll]
  | a :: l => by
    have := depth_pairs l
    have h2 : (shD a).depth = 1 := by simp [shD, PyData.depth, PyData.depthAll]
    show max (shD a).depth (PyData.depthAll (l.map shD)) ≤ 1
    omega
end Ba

set_option maxHeartbeats 400000
namespace Ba
open PySem PySem.Spec PyProof.Rows L2
/-! ### harbours -/
structure HRun (mg : Str → Option Value) : Prop where
  MAX_ADVANCE : ∃ t, mg "MAX_ADVANCE" = some (.int 200 t)
structure HE where
  op : PyData
  h : Int
  ss : List (Int × Int)
  D : Dk
  day : Int
structure Hb where
  h : Int
  ss : List (Int × Int)
  pol : Pol
  D : Dk
  day : Int
  hist : List HE
structure HA where
  p : Addr
  dx : Addr
  da : DA
  hl : Addr
  das : List DA
def HA.all (a : HA) : List Addr := a.p :: a.hl :: (a.da.foot ++ a.das.flatMap DA.foot)
def HA.mut (a : HA) : List Addr := [a.p, a.hl]
structure HarbC (K : PySem.W.Frag) (CH : Addr) : Prop where
  cls : Cls K CH
  timetable : NoAttr K CH "timetable"
  policy : NoAttr K CH "policy"
  dock : NoAttr K CH "dock"
  today : NoAttr K CH "today"
  history : NoAttr K CH "history"
def hbF (tv pv : V) (dk : Addr) (day : Int) (hl : Addr) : List (Str × V) := [("timetable", tv), ("policy", pv), ("dock", .ref dk), ("today", .int day), ("history", .ref hl)]
inductive HistAt (CD : Addr) (H : Hp) : List V → List DA → List HE → Prop
  | nil : HistAt CD H [] [] []
  | cons {e : Addr} {ov tv : V} {da : DA} {x : HE} {es : List V} {das : List DA} {xs : List HE} : H e = some (.tup [ov, tv, .ref da.p, .int x.day]) → Tp H ov x.op → Tp H tv (tbD x.h x.ss) → DockAt CD H da x.D → HistAt CD H es das xs → HistAt CD H (.ref e :: es) (da :: das) (x :: xs)
theorem HistAt.len {CD : Addr} {H : Hp} : ∀ {es : List V} {das : List DA} {xs : List HE}, HistAt CD H es das xs → es.length = xs.length
  | _, _, _, .nil => rfl
  | _, _, _, .cons _ _ _ _ t => by rw [List.length_cons, List.length_cons, t.len]
theorem HistAt.kp {CD : Addr} {H H' : Hp} {S : List Addr} (k : Kp S H H') : ∀ {es : List V} {das : List DA} {xs : List HE}, HistAt CD H es das xs → (∀ x ∈ das.flatMap DA.foot, x ∉ S) → HistAt CD H' es das xs
  | _, _, _, .nil, _ => .nil
  | _, _, _, .cons h1 h2 h3 h4 t, n => .cons (k.tup _ _ h1) (h2.kp k) (h3.kp k) (h4.kp k (fun x hx => n x (by rw [List.flatMap_cons, List.mem_append]; exact .inl hx))) (t.kp k (fun x hx => n x (by rw [List.flatMap_cons, List.mem_append]; exact .inr hx)))
theorem HistAt.app {CD : Addr} {H : Hp} : ∀ {es fs : List V} {das dbs : List DA} {xs ys : List HE}, HistAt CD H es das xs → HistAt CD H fs dbs ys → HistAt CD H (es ++ fs) (das ++ dbs) (xs ++ ys)
  | _, _, _, _, _, _, .nil, s => s
  | _, _, _, _, _, _, .cons h1 h2 h3 h4 t, s => .cons h1 h2 h3 h4 (t.app s)
theorem DockAt.live {CD : Addr} {H : Hp} {a : DA} {D : Dk} (hD : DockAt CD H a D) : ∀ x ∈ a.foot, H x ≠ none := fun x hx z => hD.foot_ne z hx
theorem HistAt.live {CD : Addr} {H : Hp} : ∀ {es : List V} {das : List DA} {xs : List HE}, HistAt CD H es das xs → ∀ x ∈ das.flatMap DA.foot, H x ≠ none
  | _, _, _, .nil, x, hx => by simp at hx
  | _, _, _, .cons h1 h2 h3 h4 t, x, hx => by
    rw [List.flatMap_cons, List.mem_append] at hx
    rcases hx with hx | hx
    · exact h4.live x hx
    · exact t.live x hx
structure HarbAt (CD CH : Addr) (H : Hp) (a : HA) (B : Hb) : Prop where
  ex : ∃ tv pv es, H a.p = some (.ins CH a.dx (hbF tv pv a.da.p B.day a.hl)) ∧ Tp H tv (tbD B.h B.ss) ∧ Tp H pv (polD B.pol) ∧ DockAt CD H a.da B.D ∧ H a.hl = some (.lst es) ∧ HistAt CD H es a.das B.hist
  np : ∀ x ∈ a.da.foot ++ a.das.flatMap DA.foot, x ≠ a.p ∧ x ≠ a.hl
theorem HarbAt.kp {CD CH : Addr} {H H' : Hp} {a : HA} {B : Hb} {S : List Addr} (d : HarbAt CD CH H a B) (k : Kp S H H') (n : ∀ x ∈ a.all, x ∉ S) : HarbAt CD CH H' a B := by
  obtain ⟨⟨tv, pv, es, h1, h2, h3, h4, h5, h6⟩, np⟩ := d
  exact ⟨⟨tv, pv, es, k.keep _ _ h1 (n _ (by simp [HA.all])), h2.kp k, h3.kp k, h4.kp k (fun x hx => n x (by simp [HA.all, hx])), k.keep _ _ h5 (n _ (by simp [HA.all])), h6.kp k (fun x hx => n x (by
    unfold HA.all
    exact List.mem_cons_of_mem _ (List.mem_cons_of_mem _ (List.mem_append_right _ hx))))⟩, np⟩
theorem HarbAt.live {CD CH : Addr} {H : Hp} {a : HA} {B : Hb} (d : HarbAt CD CH H a B) : ∀ x ∈ a.all, H x ≠ none := by
  obtain ⟨⟨tv, pv, es, h1, h2, h3, h4, h5, h6⟩, np⟩ := d
  intro x hx
  unfold HA.all at hx
  rcases List.mem_cons.mp hx with rfl | hx
  · rw [h1]; simp
  rcases List.mem_cons.mp hx with rfl | hx
  · rw [h5]; simp
  rcases List.mem_append.mp hx with hx | hx
  · exact h4.live x hx
  · exact h6.live x hx
def hb0 (h : Int) (ss : List (Int × Int)) (pol : Pol) (bs : List (Int × Int)) : Hb := ⟨h, ss, pol, dk0 h ss pol bs, 0, []⟩
/-- the pairs at the beginning of a day -/
def occM (D : Dk) : List (Int × Int) := (D.stays.map fun s => (s.1, s.2.1)).mergeSort (PySem.W.dataLe false shD)
theorem nd_of_up : ∀ {bs : List (Int × Int)}, upB bs = true → (bs.map (·.1)).Pairwise (· < ·)
  | [], _ => .nil
  | [a], _ => by simp
  | a :: b :: r, h => by
    have h : (decide (a.1 < b.1) && upB (b :: r)) = true := h
    rw [Bool.and_eq_true, decide_eq_true_iff] at h
    have ih := nd_of_up h.2
    rw [List.map_cons]
    refine List.Pairwise.cons (fun x hx => ?_) ih
    rw [List.map_cons] at hx ih
    rcases List.mem_cons.mp hx with rfl | hx
    · exact h.1
    · exact Int.lt_trans h.1 ((List.pairwise_cons.mp ih).1 x hx)
section
variable {P : Program} {w : World} {K : PySem.W.Frag} {mg : Str → Option Value} {base : Heap} {f : Addr} {fd : FuncData}
/-- valid arguments -/
structure InitOk (h : Int) (ss : List (Int × Int)) (pol : Pol) (bs : List (Int × Int)) : Prop where
  t : isTableD (tbD h ss) = true
  p : isPolicyD h ss (polD pol) = true
  s : isStartD h pol (.tuple (bs.map shD)) = true
  n : bs.length ≤ 1000
  po : PolOk pol
theorem InitOk.tab {h : Int} {ss : List (Int × Int)} {pol : Pol} {bs : List (Int × Int)} (i : InitOk h ss pol bs) : TabV h ss := by
  have h1 := i.t
  unfold isTableD at h1
  rw [Bool.and_eq_true] at h1
  have := (isShapeD_eq h1.1).2
  rw [tabOf_tb] at this
  exact this
theorem shOf_shD : (shOf ∘ shD) = (id : Int × Int → Int × Int) := funext fun s => rfl
theorem InitOk.up {h : Int} {ss : List (Int × Int)} {pol : Pol} {bs : List (Int × Int)} (i : InitOk h ss pol bs) : upB bs = true := by
  have h1 := i.s
  have h1 : ((bs.map shD).all (isStrangerD h) && ((pol.open || (bs.map shD).isEmpty) && upB ((bs.map shD).map shOf))) = true := h1
  rw [Bool.and_eq_true, Bool.and_eq_true, List.map_map, shOf_shD, List.map_id] at h1
  exact h1.2.2
theorem InitOk.nd {h : Int} {ss : List (Int × Int)} {pol : Pol} {bs : List (Int × Int)} (i : InitOk h ss pol bs) : (bs.map (·.1)).Nodup := (nd_of_up i.up).imp (fun h => by omega)
end
end Ba

set_option maxHeartbeats 400000
namespace Ba
open PySem PySem.Spec PyProof.Rows L2
section
variable {P : Program} {w : World} {K : PySem.W.Frag} {mg : Str → Option Value} {base : Heap} {f : Addr} {fd : FuncData}
theorem StrS.dp {H : Hp} {v : V} {bs : List (Int × Int)} (s : StrS K H v bs) : Dp K H v (.tuple (bs.map shD)) := by
  obtain ⟨sa, xs, rfl, h1, h2⟩ := s
  exact .tup h1 (TpAll.dp _ _ h2)
abbrev spHarbInit (K : PySem.W.Frag) (CD CH : Addr) : Sp := Pr fun vs H Q _ => ∃ (p dx : Addr) (tv pw sv : V) (h : Int) (ss : List (Int × Int)) (pol : Pol) (bs : List (Int × Int)), vs = [.ref p, tv, pw, sv] ∧ H p = some (.ins CH dx []) ∧ Tp H tv (tbD h ss) ∧ Tp H pw (polD pol) ∧
  StrS K H sv bs ∧ InitOk h ss pol bs ∧
  ∀ (ha : HA) H', ha.p = p → (∀ x ∈ ha.all, x = p ∨ H x = none) → Kp [p] H H' → HarbAt CD CH H' ha (hb0 h ss pol bs) → Q .non H'
theorem ok_Harbour_init {CD CH CT CP CS : Addr} (c : HarbC K CH) (D_require_table : DefOk P w K mg base "require_table" 5 p_require_table [] (spReqTable K CT)) (D_require_policy : DefOk P w K mg base "require_policy" 5 p_require_policy [] (spReqPolicy K CP))
    (D_require_start : DefOk P w K mg base "require_start" 5 p_require_start [] (spReqStart K CS)) (D_mk_Dock : MkOk P w K mg base "Dock" CD 1 p_Dock_init [] (spDockInit K CD)) {dvs : List V} {kws : List (Str × V)} (F : FunS K "__init__" "Harbour.__init__" s_Harbour_init dvs kws f fd) :
    FnOk P w K mg base (L2N.CX P w) 6 f fd p_Harbour_init (spHarbInit K CD CH) := by
  have S := sc_Harbour_init
  refine F.ok S (fun vs H Q E h => ?_) (fun cdv A outer s H vs Q E hr h => ?_)
  · obtain ⟨p, dx, tv, pw, sv, h, ss, pol, bs, rfl, _⟩ := h
    rfl
  · obtain ⟨p, dx, tv, pw, sv, h, ss, pol, bs, rfl, hp, ht, hpol, hs, io, q⟩ := h
    refine ⟨_, (pss_cons (ps_expr (pe_fn D_require_table (hr.mono (by decide)) passLB rfl (pa_cons (pv 1) pa_nil)))
      (pss_cons (ps_expr (pe_fn D_require_policy (hr.mono (by decide)) passLB rfl (pa_cons (pv 1) (pa_cons (pv 2) pa_nil))))
      (pss_cons (ps_expr (pe_fn D_require_start (hr.mono (by decide)) passLB rfl (pa_cons (pv 1) (pa_cons (pv 2) (pa_cons (pv 3) pa_nil)))))
      (pss_cons (ps_fld (pv 0) (pv 1) rfl)
      (pss_cons (ps_fld (pv 0) (pv 2) rfl)
      (pss_cons (ps_fld (pv 0) (pe_mk D_mk_Dock (hr.mono (by decide)) passLB rfl (pa_cons (pv 1) (pa_cons (pv 2) (pa_cons (pv 3) pa_nil)))) rfl)
      (pss_cons (ps_fld (pv 0) pe_int rfl)
      (pss_one (ps_fld (pv 0) (pe_lst pa_nil) rfl))))))))), ?_⟩
    refine ⟨_, rfl, tv, rfl, .inr ⟨_, Tp.dp _ _ ht, fun _ => ht, fun H1 k1 => ?_⟩⟩
    refine iteT' io.t ?_
    refine ⟨_, rfl, _, rfl, tv, pw, h, ss, rfl, ht.kp k1, io.tab.ok, .inr ⟨_, ⟨Tp.dp _ _ (hpol.kp k1), polD_plain _, polD_depth _⟩, fun H2 k2 => ?_⟩⟩
    refine iteT' io.p ?_
    have k12 := k1.trans k2
    refine ⟨_, rfl, _, rfl, _, rfl, tv, pw, sv, h, ss, pol, rfl, ht.kp k12, io.tab.ok, hpol.kp k12, .inr ⟨_, ⟨(hs.kp k12).dp, plain_pairs bs, ?_⟩, fun ds e => ?_, fun H3 k3 => ?_⟩⟩
    · have := depth_pairs bs
      show PyData.depthAll (bs.map shD) + 1 ≤ 60
      omega
    · cases e
      rw [List.length_map]
      exact io.n
    refine iteT' io.s ?_
    have k13 := k12.trans k3
    have hp3 := k13.keep _ _ hp (by simp)
    refine ⟨_, rfl, _, rfl, p, CH, dx, _, rfl, hp3, c.cls, c.timetable, (show (0:Nat) < 1000 from by decide), ?_⟩
    have e1 : (upd H3 p (.ins CH dx (putF "timetable" tv []))) p = some (.ins CH dx [("timetable", tv)]) := upd_same
    have j1 : Kp [p] H3 (upd H3 p (.ins CH dx (putF "timetable" tv []))) := (Kp.refl H3).put (by simp) hp3 ins_nt
    generalize upd H3 p (.ins CH dx (putF "timetable" tv [])) = H4 at e1 j1 ⊢
    refine ⟨_, rfl, _, rfl, p, CH, dx, _, rfl, e1, c.cls, c.policy, (show (1:Nat) < 1000 from by decide), ?_⟩
    have e2 : (upd H4 p (.ins CH dx (putF "policy" pw [("timetable", tv)]))) p = some (.ins CH dx [("timetable", tv), ("policy", pw)]) := upd_same
    have j2 : Kp [p] H3 (upd H4 p (.ins CH dx (putF "policy" pw [("timetable", tv)]))) := j1.put (by simp) e1 ins_nt
    generalize upd H4 p (.ins CH dx (putF "policy" pw [("timetable", tv)])) = H5 at e2 j2 ⊢
    have k5 : Kp [p] H H5 := (k13.mono (by simp)).trans j2
    refine ⟨_, rfl, _, rfl, _, rfl, fun x dx' hx hdx hne => ?_⟩
    have hxp : x ≠ p := fun z => by rw [z, e2] at hx; cases hx
    have hdp : dx' ≠ p := fun z => by rw [z, e2] at hdx; cases hdx
    have kn : Kp [] H5 (upd (upd H5 dx' (.own x)) x (.ins CD dx' [])) := (Kp.new hdx).trans (Kp.new (by rw [upd_ne hne.symm]; exact hx))
    have k5n := k5.trans (kn.mono (by simp))
    refine ⟨x, dx', tv, pw, sv, h, ss, pol, bs, rfl, upd_same, ht.kp k5n, hpol.kp k5n, hs.kp k5n, io.n, io.nd, io.po, fun sd vd ud H6 nsd nvd nud k6 D6 => ⟨rfl, ?_⟩⟩
    have e6 := k6.keep _ _ (kn.keep _ _ e2 (by simp)) (by simp [hxp.symm])
    have k56 : Kp [] H5 H6 := (kn.mono (S' := [x]) (by simp)).trans k6 |>.less (fun b hb => .inr (by rw [show b = x by simpa using hb]; exact hx))
    have k06 : Kp [p] H H6 := k5.trans (k56.mono (by simp))
    refine ⟨_, rfl, p, CH, dx, _, rfl, e6, c.cls, c.dock, (show (2:Nat) < 1000 from by decide), ?_⟩
    have e7 : (upd H6 p (.ins CH dx (putF "dock" (.ref x) [("timetable", tv), ("policy", pw)]))) p = some (.ins CH dx [("timetable", tv), ("policy", pw), ("dock", .ref x)]) := upd_same
    have j7 : Kp [p] H6 (upd H6 p (.ins CH dx (putF "dock" (.ref x) [("timetable", tv), ("policy", pw)]))) := (Kp.refl H6).put (by simp) e6 ins_nt
    generalize upd H6 p (.ins CH dx (putF "dock" (.ref x) [("timetable", tv), ("policy", pw)])) = H7 at e7 j7 ⊢
    refine ⟨_, rfl, p, CH, dx, _, rfl, e7, c.cls, c.today, (show (3:Nat) < 1000 from by decide), ?_⟩
    have e8 : (upd H7 p (.ins CH dx (putF "today" (.int 0) [("timetable", tv), ("policy", pw), ("dock", .ref x)]))) p = some (.ins CH dx [("timetable", tv), ("policy", pw), ("dock", .ref x), ("today", .int 0)]) := upd_same
    have j8 : Kp [p] H6 (upd H7 p (.ins CH dx (putF "today" (.int 0) [("timetable", tv), ("policy", pw), ("dock", .ref x)]))) := j7.put (by simp) e7 ins_nt
    generalize upd H7 p (.ins CH dx (putF "today" (.int 0) [("timetable", tv), ("policy", pw), ("dock", .ref x)])) = H8 at e8 j8 ⊢
    refine ⟨(show (0:Nat) ≤ sizeLine from by decide), fun hl hhl => ?_⟩
    have hlp : hl ≠ p := fun z => by rw [z, e8] at hhl; cases hhl
    refine ⟨_, rfl, p, CH, dx, _, rfl, (show upd H8 hl (.lst []) p = _ from (upd_ne hlp.symm).trans e8), c.cls, c.history, (show (4:Nat) < 1000 from by decide), ?_⟩
    have kl : Kp [] H8 (upd H8 hl (.lst [])) := Kp.new hhl
    have kf : Kp [p] H8 (upd (upd H8 hl (.lst [])) p (.ins CH dx (putF "history" (.ref hl) [("timetable", tv), ("policy", pw), ("dock", .ref x), ("today", .int 0)]))) := (kl.mono (by simp)).put (by simp) (kl.keep _ _ e8 (by simp)) ins_nt
    have k8f := j8.trans kf
    have kall := k06.trans k8f
    have nx5 : ∀ y, H5 y = none → y ≠ p → H y = none := fun y hy n => k5.freeS hy (by simp [n])
    have fD : ∀ y ∈ (DA.mk x dx' sd vd ud).foot, y ≠ p ∧ y ≠ hl ∧ H y = none := by
      intro y hy
      have hy' : y = x ∨ y = sd ∨ y = vd ∨ y = ud := by simpa [DA.foot] using hy
      have h8n : H8 y ≠ none := fun z => (D6.live y hy) (j8.freeS z (by
        have : y ≠ p := by
          intro z2
          rcases hy' with e | e | e | e
          · exact hxp (e.symm.trans z2)
          · rw [← e, z2, upd_ne (show p ≠ x from hxp.symm), upd_ne (show p ≠ dx' from hdp.symm), e2] at nsd; cases nsd
          · rw [← e, z2, upd_ne (show p ≠ x from hxp.symm), upd_ne (show p ≠ dx' from hdp.symm), e2] at nvd; cases nvd
          · rw [← e, z2, upd_ne (show p ≠ x from hxp.symm), upd_ne (show p ≠ dx' from hdp.symm), e2] at nud; cases nud
        simpa using this))
      have h5n : H5 y = none ∧ y ≠ p := by
        rcases hy' with e | e | e | e
        · rw [e]; exact ⟨hx, hxp⟩
        · rw [e]; refine ⟨kn.free nsd, fun z => ?_⟩; rw [z, kn.keep _ _ e2 (by simp)] at nsd; cases nsd
        · rw [e]; refine ⟨kn.free nvd, fun z => ?_⟩; rw [z, kn.keep _ _ e2 (by simp)] at nvd; cases nvd
        · rw [e]; refine ⟨kn.free nud, fun z => ?_⟩; rw [z, kn.keep _ _ e2 (by simp)] at nud; cases nud
      exact ⟨h5n.2, fun z => h8n (by rw [z]; exact hhl), nx5 y h5n.1 h5n.2⟩
    refine q ⟨p, dx, ⟨x, dx', sd, vd, ud⟩, hl, []⟩ _ rfl ?_ kall ⟨⟨tv, pw, [], upd_same, ht.kp kall, hpol.kp kall, D6.kp k8f (fun y hy => by simp [(fD y hy).1]), ?_, .nil⟩, ?_⟩
    · intro y hy
      unfold HA.all at hy
      rcases List.mem_cons.mp hy with rfl | hy
      · exact .inl rfl
      rcases List.mem_cons.mp hy with rfl | hy
      · exact .inr ((k06.trans j8).freeS hhl (by simp [hlp]))
      · rw [List.flatMap_nil, List.append_nil] at hy
        exact .inr (fD y hy).2.2
    · show (upd (upd H8 hl (.lst [])) p _) hl = _
      rw [upd_ne hlp, upd_same]
    · intro y hy
      rw [List.flatMap_nil, List.append_nil] at hy
      exact ⟨(fD y hy).1, (fD y hy).2.1⟩
end
end Ba

set_option maxHeartbeats 400000
namespace Ba
open PySem PySem.Spec PyProof.Rows L2
section
variable {P : Program} {w : World} {K : PySem.W.Frag} {mg : Str → Option Value} {base : Heap} {f : Addr} {fd : FuncData}
abbrev spHarbLen (CD CH : Addr) : Sp := Pr fun vs H Q _ => ∃ (a : HA) (B : Hb) (N : Nat), vs = [.ref a.p] ∧ HarbAt CD CH H a B ∧ DkOk N B.D ∧ N ≤ 1000000 ∧ Q (.int (B.D.stays.length : Nat)) H
theorem ok_Harbour_len {CD CH : Addr} (c : HarbC K CH) (d : DockC K CD) (B : Bi mg) (F : FunS K "__len__" "Harbour.__len__" s_Harbour_len [] [] f fd) : FnOk P w K mg base (L2N.CX P w) 1 f fd p_Harbour_len (spHarbLen CD CH) := by
  have S := sc_Harbour_len
  refine F.ok S (fun vs H Q E h => ?_) (fun cdv A outer s H vs Q E hr h => ?_)
  · obtain ⟨a, B, N, rfl, _⟩ := h
    rfl
  · obtain ⟨a, Bm, N, rfl, hB, hok, hN, q⟩ := h
    refine ⟨_, (pss_one (ps_ret (pe_callB call_lenD (by rfl) B.len (by decide +kernel) (pa_cons (pe_fld (pe_fld (pv 0) rfl) rfl) pa_nil)))), ?_⟩
    obtain ⟨⟨tv, pv, es, h1, h2, h3, h4, h5, h6⟩, np⟩ := hB
    obtain ⟨⟨tv', pv', skvs, ukvs, g1, g2, g3, g4, g5, g6, g7, g8⟩, su⟩ := h4
    refine ⟨_, rfl, a.p, CH, a.dx, _, _, rfl, h1, c.cls, c.dock, rfl, a.da.p, CD, a.da.dx, _, _, rfl, g1, d.cls, d.stays, rfl, a.da.sd, skvs, rfl, g4, ?_⟩
    rw [g5.len]
    exact q
abbrev spHarbDay (CD CH : Addr) : Sp := Pr fun vs H Q _ => ∃ (a : HA) (B : Hb), vs = [.ref a.p] ∧ HarbAt CD CH H a B ∧ Q (.int B.day) H
theorem ok_Harbour_day {CD CH : Addr} (c : HarbC K CH) (F : FunS K "day" "Harbour.day" s_Harbour_day [] [] f fd) : FnOk P w K mg base (L2N.CX P w) 1 f fd p_Harbour_day (spHarbDay CD CH) := by
  have S := sc_Harbour_day
  refine F.ok S (fun vs H Q E h => ?_) (fun cdv A outer s H vs Q E hr h => ?_)
  · obtain ⟨a, B, rfl, _⟩ := h
    rfl
  · obtain ⟨a, Bm, rfl, hB, q⟩ := h
    refine ⟨_, (pss_one (ps_ret (pe_fld (pv 0) rfl))), ?_⟩
    obtain ⟨⟨tv, pv, es, h1, h2, h3, h4, h5, h6⟩, np⟩ := hB
    exact ⟨_, rfl, a.p, CH, a.dx, _, _, rfl, h1, c.cls, c.today, rfl, q⟩
theorem HistAt.at {CD : Addr} {H : Hp} : ∀ {es : List V} {das : List DA} {xs : List HE} {i : Nat} {v : V}, HistAt CD H es das xs → es[i]? = some v → ∃ x e ov tv dv, xs[i]? = some x ∧ v = .ref e ∧ H e = some (.tup [ov, tv, dv, .int x.day]) ∧ Tp H ov x.op
  | _, _, _, _, _, .nil, e => by simp at e
  | _, _, _, 0, _, .cons h1 h2 h3 h4 t, e => by simp at e; subst e; exact ⟨_, _, _, _, _, rfl, rfl, h1, h2⟩
  | _, _, _, i + 1, _, .cons h1 h2 h3 h4 t, e => by
    obtain ⟨x, e', ov, tv, dv, r1, r2⟩ := t.at (i := i) (by simpa using e)
    exact ⟨x, e', ov, tv, dv, by simpa using r1, r2⟩
abbrev spHarbLog (CD CH : Addr) : Sp := Pr fun vs H Q _ => ∃ (a : HA) (B : Hb), vs = [.ref a.p] ∧ HarbAt CD CH H a B ∧ B.hist.length ≤ 1000000 ∧
  ∀ p xs H', H p = none → Kp [] H H' → H' p = some (.lst xs) → TpAll H' xs (B.hist.map (·.op)) → Q (.ref p) H'
theorem ok_Harbour_log {CD CH : Addr} (c : HarbC K CH) (F : FunS K "log" "Harbour.log" s_Harbour_log [] [] f fd) : FnOk P w K mg base (L2N.CX P w) 1 f fd p_Harbour_log (spHarbLog CD CH) := by
  have S := sc_Harbour_log
  refine F.ok S (fun vs H Q E h => ?_) (fun cdv A outer s H vs Q E hr h => ?_)
  · obtain ⟨a, B, rfl, _⟩ := h
    rfl
  · obtain ⟨a, Bm, rfl, hB, hz, q⟩ := h
    refine ⟨_, (pss_one (ps_ret (pe_lc (own := [("operation", 1), ("table", 2), ("dock", 3), ("day", 4)]) (g := (gTup K 4 (gCons (gName 1) (gCons (gName 2) (gCons (gName 3) (gCons (gName 4) gNil)))))) (tt := tYes) (by rfl) S.nd (pi_list (pe_fld (pv 0) rfl)) (blkOk_by (own := [("operation", 1), ("table", 2), ("dock", 3), ("day", 4)]) (N := n_Harbour_log) (sc := defScope s_Harbour_log) (by decide +kernel)) (fun _ _ _ _ _ => (pg_tup rfl (pgs_cons (pg_name (i := 1) S.nd rfl (Or.inl rfl)) (pgs_cons (pg_name (i := 2) S.nd rfl (Or.inl rfl)) (pgs_cons (pg_name (i := 3) S.nd rfl (Or.inl rfl)) (pgs_cons (pg_name (i := 4) S.nd rfl (Or.inl rfl)) pgs_nil)))))) (fun _ _ _ _ _ => pts_nil) (fun _ _ _ _ _ => (pv 1))))), ?_⟩
    obtain ⟨⟨tv, pv, es, h1, h2, h3, h4, h5, h6⟩, np⟩ := id hB
    have hel := h6.len
    refine ⟨_, rfl, a.p, CH, a.dx, _, _, rfl, h1, c.cls, c.history, rfl, a.hl, rfl, ⟨es, SqL.of h5⟩, fun L hL => lc_data (walk_list (K := K) (a := a.hl) (xs := es)) (fun i => match Bm.hist[i]? with | some x => [x.op] | none => []) hL (fun H4 k4 => SqL.of (k4.keep _ _ h5 (by simp))) ?_ ?_⟩
    · rintro i x H4 H5 hi L4 ⟨rfl, hx⟩
      have hB4 := hB.kp L4.kp (by simp)
      have h64 := h6.kp L4.kp (by simp)
      obtain ⟨y, e, ov, tv', dv, ey, rfl, he, to⟩ := h64.at hx
      refine ⟨e, _, rfl, SqT.of he, rfl, _, _, rfl, _, _, rfl, _, _, rfl, _, _, rfl, rfl, ?_⟩
      refine ⟨wipe4 (by decide), ?_⟩
      refine ⟨_, rfl, ?_⟩
      exact L4.fin (d := y.op) (by omega) hL hi (Kp.refl _) (by rw [ey]) to
    · intro H4 acc k4 hacc _ hT
      rw [hel, flatMap_one Bm.hist _ (fun x => x.op) (fun i x e => by rw [e])] at hT
      exact q L acc H4 hL k4 hacc hT
abbrev spHarbOcc (CD CH : Addr) : Sp := Pr fun vs H Q _ => ∃ (a : HA) (B : Hb) (N : Nat), vs = [.ref a.p] ∧ HarbAt CD CH H a B ∧ DkOk N B.D ∧ N ≤ 1000000 ∧
  ∀ p xs H', H p = none → Kp [] H H' → H' p = some (.lst xs) → TpAll H' xs ((occM B.D).map shD) → Q (.ref p) H'
theorem ok_Harbour_occupied {CD CH : Addr} (c : HarbC K CH) (d : DockC K CD) (B : Bi mg) (F : FunS K "occupied" "Harbour.occupied" s_Harbour_occupied [] [] f fd) : FnOk P w K mg base (L2N.CX P w) 1 f fd p_Harbour_occupied (spHarbOcc CD CH) := by
  have S := sc_Harbour_occupied
  refine F.ok S (fun vs H Q E h => ?_) (fun cdv A outer s H vs Q E hr h => ?_)
  · obtain ⟨a, B, N, rfl, _⟩ := h
    rfl
  · obtain ⟨a, Bm, N, rfl, hB, hok, hN, q⟩ := h
    refine ⟨_, (pss_one (ps_ret (pe_callB (cr_sortD hr.units shD) (by rfl) B.sorted (by decide +kernel) (pa_cons (pe_lock (pe_lc (own := [("berth", 1), ("until", 2), ("order", 3)]) (g := (gTup K 2 (gCons (gName 1) (gCons (gTup K 2 (gCons (gName 2) (gCons (gName 3) gNil))) gNil)))) (tt := tYes) (by rfl) S.nd (pi_items (pe_fld (pe_fld (pv 0) rfl) rfl)) (blkOk_by (own := [("berth", 1), ("until", 2), ("order", 3)]) (N := n_Harbour_occupied) (sc := defScope s_Harbour_occupied) (by decide +kernel)) (fun _ _ _ _ _ => (pg_tup rfl (pgs_cons (pg_name (i := 1) S.nd rfl (Or.inl rfl)) (pgs_cons (pg_tup rfl (pgs_cons (pg_name (i := 2) S.nd rfl (Or.inl rfl)) (pgs_cons (pg_name (i := 3) S.nd rfl (Or.inl rfl)) pgs_nil))) pgs_nil)))) (fun _ _ _ _ _ => pts_nil) (fun _ _ _ _ _ => (pe_tup (pa_cons (pv 1) (pa_cons (pv 2) pa_nil)))))) pa_nil)))), ?_⟩
    obtain ⟨⟨tv, pv, es, h1, h2, h3, h4, h5, h6⟩, np⟩ := id hB
    obtain ⟨⟨tv', pv', skvs, ukvs, g1, g2, g3, g4, g5, g6, g7, g8⟩, su⟩ := id h4
    refine ⟨a.da.sd, .dK skvs, g4, by trivial, fun od => ?_⟩
    have n1 : a.p ≠ a.da.sd := fun z => by rw [z, g4] at h1; cases h1
    have n2 : a.da.p ≠ a.da.sd := fun z => by rw [z, g4] at g1; cases g1
    refine ⟨_, rfl, a.p, CH, a.dx, _, _, rfl, (upd_ne n1).trans h1, c.cls, c.dock, rfl, a.da.p, CD, a.da.dx, _, _, rfl, (upd_ne n2).trans g1, d.cls, d.stays, rfl, a.da.sd, od, skvs, rfl, upd_same, fun L hL => ?_⟩
    have hsl := g5.len
    have hsv := hok.sv
    refine (lc_data (walk_items (d := a.da.sd) (o := od) (kvs := skvs)) (fun i => match Bm.D.stays[i]? with | some s => [shD (s.1, s.2.1)] | none => []) hL (fun H4 k4 => k4.keep _ _ upd_same (by simp)) ?_ ?_)
    · rintro i x H4 H5 hi L4 ⟨T, k, v, ek, rfl, hT, rfl⟩
      have tk4 : TK H H4 := (tk_frz g4 dK_nt).trans L4.kp.tup
      obtain ⟨s, es, rfl, ts⟩ := (g5.tk tk4).at ek
      obtain ⟨c, o, rfl, hc, ho⟩ := tp_st ts
      have hc2 : (upd H4 T (.tup [.int s.1, .ref c])) c = _ := (TK.new hT) _ _ hc
      refine ⟨T, _, rfl, SqT.of upd_same, rfl, _, _, rfl, _, _, rfl, ⟨c, _, rfl, SqT.of hc2, rfl, _, _, rfl, _, _, rfl, rfl, ?_⟩⟩
      refine ⟨rfl, ?_⟩
      refine ⟨wipe3 (by decide), ?_⟩
      refine ⟨_, rfl, _, rfl, (show (2:Nat) ≤ sizeLine from by decide), fun t1 ht1 => ?_⟩
      exact L4.fin (d := shD (s.1, s.2.1)) (by omega) hL hi ((Kp.new hT).trans (Kp.new ht1)) (by rw [es]) (.tup upd_same (.cons (.int _) (.cons (.int _) .nil)))
    · intro H4 acc k4 hacc _ hT
      rw [g5.len, flatMap_one Bm.D.stays _ (fun s => shD (s.1, s.2.1)) (fun i x e => by rw [e])] at hT
      rw [show (Bm.D.stays.map fun s => shD (s.1, s.2.1)) = (Bm.D.stays.map fun s => (s.1, s.2.1)).map shD by rw [List.map_map]; rfl] at hT
      refine ⟨k4.keep _ _ upd_same (by simp), ?_⟩
      have k6 : Kp [] H (upd H4 a.da.sd (.dK skvs)) := kp_unlock g4 dK_nt k4
      have nLs : L ≠ a.da.sd := fun z => by rw [z, upd_same] at hL; cases hL
      have hacc6 : (upd H4 a.da.sd (.dK skvs)) L = some (.lst acc) := by rw [upd_ne nLs]; exact hacc
      have hT6 : TpAll (upd H4 a.da.sd (.dK skvs)) acc _ := TpAll.mono (fun b ys e => by rw [upd_ne (ne_of e (k4.keep _ _ upd_same (by simp)) (fun z => nomatch z))]; exact e) _ _ hT
      generalize upd H4 a.da.sd (.dK skvs) = H6 at k6 hacc6 hT6 ⊢
      refine ⟨L, acc, _, rfl, SqL.of hacc6, hT6, shD_alike, fun b => ⟨_, _, rfl⟩, shD_depth, fun ys p hys hyl hp => ?_⟩
      exact q p ys _ (k6.free hp) (k6.trans (Kp.new hp)) upd_same (hys.new hp)
end
end Ba

set_option maxHeartbeats 400000
namespace Ba
open PySem PySem.Spec PyProof.Rows L2
def daysM : Nat → Dk → Option Dk
  | 0, D => some D
  | n + 1, D => (daysM n D).bind fun D' => (dayM D').map (·.2)
structure SameC (D D' : Dk) : Prop where
  h : D'.h = D.h
  ss : D'.ss = D.ss
  pol : D'.pol = D.pol
theorem DkOk.mono {N M : Nat} {D : Dk} (d : DkOk N D) (h : N ≤ M) : DkOk M D := ⟨d.nd, Nat.le_trans d.sv h, Nat.le_trans d.us h⟩
theorem dayM_ok {N : Nat} {D D' : Dk} {cs : List Cl3} (d : DkOk N D) (h : dayM D = some (cs, D')) : DkOk (N + D.ss.length) D' ∧ SameC D D' ∧ D'.day = D.day + 1 := by
  unfold dayM at h
  cases e : runM D (arrL D.ss) with
  | none => rw [e] at h; cases h
  | some r =>
    rw [e] at h
    cases h
    obtain ⟨cs, D0⟩ := r
    obtain ⟨h1, h2, h3⟩ := run_ok d (arrL D.ss) (Nat.le_refl _) (by rw [List.take_length]; exact e)
    rw [arrL_len] at h1
    have h4 : DkOk (N + D.ss.length) { D0 with day := D0.day + 1 } := ⟨h1.nd, h1.sv, h1.us⟩
    refine ⟨h4.leave _, ⟨h2.h, h2.ss, h2.pol⟩, ?_⟩
    show D0.day + 1 = _
    rw [h2.day]
theorem daysM_ok {N : Nat} {D : Dk} (d : DkOk N D) : ∀ {n : Nat} {D' : Dk}, daysM n D = some D' → DkOk (N + n * D.ss.length) D' ∧ SameC D D' ∧ D'.day = D.day + n
  | 0, D', h => by
    cases h
    exact ⟨d.mono (by omega), ⟨rfl, rfl, rfl⟩, by simp⟩
  | n + 1, D', h => by
    have h : (daysM n D).bind (fun D' => (dayM D').map (·.2)) = some D' := h
    cases e : daysM n D with
    | none => rw [e] at h; cases h
    | some D1 =>
      rw [e] at h
      have h : (dayM D1).map (·.2) = some D' := h
      cases e2 : dayM D1 with
      | none => rw [e2] at h; cases h
      | some r =>
        rw [e2] at h
        cases h
        obtain ⟨h1, h2, h3⟩ := daysM_ok d e
        obtain ⟨cs, D2⟩ := r
        obtain ⟨h4, h5, h6⟩ := dayM_ok h1 e2
        refine ⟨h4.mono ?_, ⟨h5.h.trans h2.h, h5.ss.trans h2.ss, h5.pol.trans h2.pol⟩, ?_⟩
        · rw [h2.ss, Nat.succ_mul]; omega
        · show D2.day = _
          rw [h6, h3]
          push_cast
          omega
theorem daysM_pre {D D' : Dk} {n : Nat} (h : daysM (n + 1) D = some D') : ∃ D1 cs, daysM n D = some D1 ∧ dayM D1 = some (cs, D') := by
  have h : (daysM n D).bind (fun D' => (dayM D').map (·.2)) = some D' := h
  cases e : daysM n D with
  | none => rw [e] at h; cases h
  | some D1 =>
    rw [e] at h
    have h : (dayM D1).map (·.2) = some D' := h
    cases e2 : dayM D1 with
    | none => rw [e2] at h; cases h
    | some r =>
      rw [e2] at h
      cases h
      exact ⟨D1, r.1, rfl, e2⟩
theorem daysM_le {D D' : Dk} : ∀ {n : Nat}, daysM n D = some D' → ∀ {m : Nat}, m ≤ n → ∃ D1, daysM m D = some D1
  | 0, h, m, hm => by
    obtain rfl : m = 0 := by omega
    exact ⟨_, h⟩
  | n + 1, h, m, hm => by
    by_cases e : m = n + 1
    · subst e; exact ⟨_, h⟩
    · obtain ⟨D1, cs, h1, h2⟩ := daysM_pre h
      exact daysM_le h1 (by omega)
def advM (B : Hb) (n : Nat) (D' : Dk) : Hb := { B with D := D', day := B.day + n, hist := B.hist ++ [⟨.tuple [.str "advance", .int (n : Int)], B.h, B.ss, B.D, B.day⟩] }
section
variable {P : Program} {w : World} {K : PySem.W.Frag} {mg : Str → Option Value} {base : Heap} {f : Addr} {fd : FuncData}
abbrev spHarbCommit (CD CH : Addr) : Sp := Pr fun vs H Q _ => ∃ (a : HA) (B : Hb) (ov tv : V) (op : PyData) (h : Int) (ss : List (Int × Int)) (da : DA) (D : Dk) (day : Int), vs = [.ref a.p, ov, tv, .ref da.p, .int day] ∧ HarbAt CD CH H a B ∧ Tp H ov op ∧ Tp H tv (tbD h ss) ∧ DockAt CD H da D ∧
  (∀ x ∈ da.foot, x ≠ a.p ∧ x ≠ a.hl) ∧ B.hist.length < 1000000 ∧
  ∀ H', Kp a.mut H H' → HarbAt CD CH H' ⟨a.p, a.dx, da, a.hl, a.das ++ [a.da]⟩ { B with h := h, ss := ss, D := D, day := day, hist := B.hist ++ [⟨op, B.h, B.ss, B.D, B.day⟩] } → Q .non H'
theorem ok_Harbour_commit {CD CH : Addr} (c : HarbC K CH) (F : FunS K "commit" "Harbour.commit" s_Harbour_commit [] [] f fd) : FnOk P w K mg base (L2N.CX P w) 1 f fd p_Harbour_commit (spHarbCommit CD CH) := by
  have S := sc_Harbour_commit
  refine F.ok S (fun vs H Q E h => ?_) (fun cdv A outer s H vs Q E hr h => ?_)
  · obtain ⟨a, B, ov, tv, op, h, ss, da, D, day, rfl, _⟩ := h
    rfl
  · obtain ⟨a, B, ov, tv, op, h, ss, da, D, day, rfl, hB, ho, ht, hD, hne, hz, q⟩ := h
    refine ⟨_, (pss_cons (ps_expr (pe_bm PySem.F.plainAttrs_list PySem.F.slot_list_append PySem.F.type_list_append mt_append (pe_fld (pv 0) rfl) (pa_cons (pe_tup (pa_cons (pv 1) (pa_cons (pe_fld (pv 0) rfl) (pa_cons (pe_fld (pv 0) rfl) (pa_cons (pe_fld (pv 0) rfl) pa_nil))))) pa_nil)))
      (pss_one (ps_asg (pe_tup (pa_cons (pv 2) (pa_cons (pv 3) (pa_cons (pv 4) pa_nil)))) (pg_tup rfl (pgs_cons (pg_fld (pv 0)) (pgs_cons (pg_fld (pv 0)) (pgs_cons (pg_fld (pv 0)) pgs_nil))))))), ?_⟩
    obtain ⟨⟨tv0, pv0, es, h1, h2, h3, h4, h5, h6⟩, np⟩ := id hB
    have hpl : a.p ≠ a.hl := fun z => by rw [z, h5] at h1; cases h1
    have hsz : (2000000 : Nat) < sizeLine := by decide
    refine ⟨_, rfl, a.p, CH, a.dx, _, _, rfl, h1, c.cls, c.history, rfl, .inl ⟨rfl, _, SqL.of h5⟩, _, rfl, _, rfl, a.p, CH, a.dx, _, _, rfl, h1, c.cls, c.timetable, rfl, _, rfl, a.p, CH, a.dx, _, _, rfl, h1, c.cls, c.dock, rfl, _, rfl, a.p, CH, a.dx, _, _, rfl, h1, c.cls, c.today, rfl, (show (4:Nat) ≤ sizeLine from by decide), fun t ht1 => ?_⟩
    have k1 : Kp [] H (upd H t (.tup [ov, tv0, .ref a.da.p, .int B.day])) := Kp.new ht1
    have t1 : (upd H t (.tup [ov, tv0, .ref a.da.p, .int B.day])) t = some (.tup [ov, tv0, .ref a.da.p, .int B.day]) := upd_same
    generalize (upd H t (.tup [ov, tv0, .ref a.da.p, .int B.day])) = H1 at k1 t1 ⊢
    have h5' := k1.keep _ _ h5 (by simp)
    refine ⟨a.hl, es, _, rfl, rfl, h5', by have := h6.len; omega, ?_⟩
    have k2 : Kp a.mut H1 (upd H1 a.hl (.lst (es ++ [.ref t]))) := (Kp.refl _).put (by simp [HA.mut]) h5' lst_nt
    have e2 : (upd H1 a.hl (.lst (es ++ [.ref t]))) a.hl = some (.lst (es ++ [.ref t])) := upd_same
    have g2 : (upd H1 a.hl (.lst (es ++ [.ref t]))) a.p = _ := (upd_ne hpl).trans (k1.keep _ _ h1 (by simp))
    generalize upd H1 a.hl (.lst (es ++ [.ref t])) = H2 at k2 e2 g2 ⊢
    refine ⟨_, rfl, _, rfl, _, rfl, (show (3:Nat) ≤ sizeLine from by decide), fun t2 ht2 => ?_⟩
    have k3 : Kp [] H2 (upd H2 t2 (.tup [tv, .ref da.p, .int day])) := Kp.new ht2
    have T3 : SqT K (upd H2 t2 (.tup [tv, .ref da.p, .int day])) t2 [tv, .ref da.p, .int day] := SqT.of upd_same
    generalize (upd H2 t2 (.tup [tv, .ref da.p, .int day])) = H3 at k3 T3 ⊢
    have g3 := k3.keep _ _ g2 (by simp)
    have e3 := k3.keep _ _ e2 (by simp)
    refine ⟨t2, _, rfl, T3, rfl, _, _, rfl, _, rfl, a.p, CH, a.dx, _, rfl, g3, c.cls, c.timetable, (show (5:Nat) < 1000 from by decide), ?_⟩
    have g4 : (upd H3 a.p (.ins CH a.dx (putF "timetable" tv (hbF tv0 pv0 a.da.p B.day a.hl)))) a.p = some (.ins CH a.dx (hbF tv pv0 a.da.p B.day a.hl)) := upd_same
    have k4 : Kp a.mut H3 (upd H3 a.p (.ins CH a.dx (putF "timetable" tv (hbF tv0 pv0 a.da.p B.day a.hl)))) := (Kp.refl _).put (by simp [HA.mut]) g3 ins_nt
    have e4 := (upd_ne (H := H3) (o := (.ins CH a.dx (putF "timetable" tv (hbF tv0 pv0 a.da.p B.day a.hl)))) hpl.symm).trans e3
    generalize (upd H3 a.p (.ins CH a.dx (putF "timetable" tv (hbF tv0 pv0 a.da.p B.day a.hl)))) = H4 at k4 g4 e4 ⊢
    refine ⟨_, _, rfl, _, rfl, a.p, CH, a.dx, _, rfl, g4, c.cls, c.dock, (show (5:Nat) < 1000 from by decide), ?_⟩
    have g5 : (upd H4 a.p (.ins CH a.dx (putF "dock" (.ref da.p) (hbF tv pv0 a.da.p B.day a.hl)))) a.p = some (.ins CH a.dx (hbF tv pv0 da.p B.day a.hl)) := upd_same
    have k5 : Kp a.mut H4 (upd H4 a.p (.ins CH a.dx (putF "dock" (.ref da.p) (hbF tv pv0 a.da.p B.day a.hl)))) := (Kp.refl _).put (by simp [HA.mut]) g4 ins_nt
    have e5 := (upd_ne (H := H4) (o := (.ins CH a.dx (putF "dock" (.ref da.p) (hbF tv pv0 a.da.p B.day a.hl)))) hpl.symm).trans e4
    generalize (upd H4 a.p (.ins CH a.dx (putF "dock" (.ref da.p) (hbF tv pv0 a.da.p B.day a.hl)))) = H5 at k5 g5 e5 ⊢
    refine ⟨_, _, rfl, _, rfl, a.p, CH, a.dx, _, rfl, g5, c.cls, c.today, (show (5:Nat) < 1000 from by decide), rfl, ?_⟩
    have k6 : Kp a.mut H5 (upd H5 a.p (.ins CH a.dx (putF "today" (.int day) (hbF tv pv0 da.p B.day a.hl)))) := (Kp.refl _).put (by simp [HA.mut]) g5 ins_nt
    have kA : Kp a.mut H1 (upd H5 a.p (.ins CH a.dx (putF "today" (.int day) (hbF tv pv0 da.p B.day a.hl)))) := ((((k2.trans (k3.mono (by simp))).trans k4).trans k5).trans k6)
    have kall : Kp a.mut H (upd H5 a.p (.ins CH a.dx (putF "today" (.int day) (hbF tv pv0 da.p B.day a.hl)))) := (k1.mono (by simp)).trans kA
    have nm : ∀ x ∈ a.da.foot ++ a.das.flatMap DA.foot, x ∉ a.mut := fun x hx z => by
      obtain ⟨n1, n2⟩ := np x hx
      have z : x = a.p ∨ x = a.hl := by simpa [HA.mut] using z
      rcases z with z | z
      · exact n1 z
      · exact n2 z
    refine q _ kall ⟨⟨tv, pv0, es ++ [.ref t], upd_same, ht.kp kall, h3.kp kall, hD.kp kall (fun x hx z => ?_), (upd_ne hpl.symm).trans e5, ?_⟩, ?_⟩
    · obtain ⟨n1, n2⟩ := hne x hx
      have z : x = a.p ∨ x = a.hl := by simpa [HA.mut] using z
      rcases z with z | z
      · exact n1 z
      · exact n2 z
    · refine HistAt.app (h6.kp kall (fun x hx => nm x (List.mem_append_right _ hx))) (.cons (kA.tup _ _ t1) (ho.kp kall) (h2.kp kall) (h4.kp kall (fun x hx => nm x (List.mem_append_left _ hx))) .nil)
    · intro x hx
      rcases List.mem_append.mp hx with hx | hx
      · exact hne x hx
      · rw [List.flatMap_append, List.mem_append] at hx
        rcases hx with hx | hx
        · exact np x (List.mem_append_right _ hx)
        · refine np x (List.mem_append_left _ ?_)
          simpa using hx
end
end Ba

set_option maxHeartbeats 400000
namespace Ba
open PySem PySem.Spec PyProof.Rows L2
section
variable {P : Program} {w : World} {K : PySem.W.Frag} {mg : Str → Option Value} {base : Heap} {f : Addr} {fd : FuncData}
/-- the first call of so many days without a berth -/
def LackD (n : Nat) (D : Dk) (d e : Int) : Prop := ∃ j Dj, j < n ∧ daysM j D = some Dj ∧ LackL Dj e ∧ d = Dj.day
abbrev spHarbAdv (CD CH CE CN : Addr) : Sp := Pr fun vs H Q E => ∃ (a : HA) (v : V), vs = [.ref a.p, v] ∧ ((NotInt K H v ∧ E (.ref CE) none H) ∨ ∃ i : Int, v = .int i ∧
  ((¬ (1 ≤ i ∧ i ≤ 200) ∧ E (.ref CE) none H) ∨ ∃ (B : Hb) (N : Nat) (n : Nat), i = (n : Int) ∧ 1 ≤ i ∧ i ≤ 200 ∧ HarbAt CD CH H a B ∧ DkOk N B.D ∧ N ≤ 700000 ∧ TabOk B.D.h B.D.ss ∧ PolOk B.D.pol ∧ B.hist.length < 1000000 ∧
    (∀ (D' : Dk) (da : DA) H', daysM n B.D = some D' → (∀ x ∈ da.foot, H x = none) → Kp a.mut H H' → HarbAt CD CH H' ⟨a.p, a.dx, da, a.hl, a.das ++ [a.da]⟩ (advM B n D') → Q .non H') ∧
    (∀ (d e : Int) (x : Addr) H', LackD n B.D d e → Kp [] H H' → H x = none → H' x = some (.xd [("ship", .int e), ("on_day", .int d)]) → E (.ref CN) (some x) H')))
theorem ok_Harbour_advance {CD CH CE CN : Addr} (c : HarbC K CH) (cl_Dock : Cls K CD) (cl_Harbour : Cls K CH) (B : Bi mg) (RH : HRun mg) (D_require_days : DefOk P w K mg base "require_days" 3 p_require_days [] (spReqDays K CE))
    (D_Dock_copy : MetOk P w K mg base CD "copy" 3 p_Dock_copy [] (spDockCopy CD)) (D_Dock_next_day : MetOk P w K mg base CD "next_day" 4 p_Dock_next_day [] (spDockDay CD CN))
    (D_Harbour_commit : MetOk P w K mg base CH "commit" 1 p_Harbour_commit [] (spHarbCommit CD CH)) (F : FunS K "advance" "Harbour.advance" s_Harbour_advance [] [] f fd) :
    FnOk P w K mg base (L2N.CX P w) 5 f fd p_Harbour_advance (spHarbAdv (K := K) CD CH CE CN) := by
  have S := sc_Harbour_advance
  refine F.ok S (fun vs H Q E h => ?_) (fun cdv A outer s H vs Q E hr h => ?_)
  · obtain ⟨a, v, rfl, _⟩ := h
    rfl
  · obtain ⟨a, v, rfl, h⟩ := h
    refine ⟨_, (pss_cons (ps_expr (pe_fn D_require_days (hr.mono (by decide)) passB rfl (pa_cons (pv 1) (pa_cons pe_int (pa_cons (pe_gint (i := 200) (by rfl) RH.MAX_ADVANCE) pa_nil)))))
      (pss_cons (ps_set (i := 2) S.nd rfl (Or.inl rfl) (pe_met0 (pe_fld (pv 0) rfl) cl_Dock D_Dock_copy (hr.mono (by decide)) passLB))
      (pss_cons (ps_for (passes_of rfl) rfl (pi_range1 (by rfl) B.range (pa_cons (pv 1) pa_nil)) (pg_name (i := 3) S.nd rfl (Or.inl rfl))
      (pss_one (ps_expr (pe_met0 (pv 2) cl_Dock D_Dock_next_day (hr.mono (by decide)) passB))))
      (pss_one (ps_expr (pe_met (pv 0) cl_Harbour D_Harbour_commit (hr.mono (by decide)) passLB (pa_cons (pe_tup (pa_cons pe_str (pa_cons (pv 1) pa_nil))) (pa_cons (pe_fld (pv 0) rfl) (pa_cons (pv 2) (pa_cons (pe_op op_add (pe_fld (pv 0) rfl) (pv 1)) pa_nil)))))))))), ?_⟩
    rcases h with ⟨hn, q⟩ | ⟨i, rfl, h⟩
    · exact ⟨_, rfl, v, 1, 200, rfl, .inl ⟨hn, q⟩⟩
    rcases h with ⟨hn, q⟩ | ⟨Bm, N, n, rfl, hi1, hi2, hB, hok, hN, htab, hpo, hz, q, q2⟩
    · refine ⟨_, rfl, .int i, 1, 200, rfl, .inr ⟨i, rfl, ?_⟩⟩
      have e : (decide (1 ≤ i) && decide (i ≤ 200)) = false := by
        rw [← Bool.not_eq_true, Bool.and_eq_true, decide_eq_true_iff, decide_eq_true_iff]
        exact hn
      exact iteF' e q
    · refine ⟨_, rfl, .int n, 1, 200, rfl, .inr ⟨n, rfl, ?_⟩⟩
      refine iteT' (by rw [decide_eq_true hi1, decide_eq_true hi2]; rfl) ?_
      obtain ⟨⟨tv, pv, es, h1, h2, h3, h4, h5, h6⟩, np⟩ := id hB
      obtain ⟨⟨tv', pv', skvs, ukvs, g1, g2, g3, g4, g5, g6, g7, g8⟩, su⟩ := id h4
      refine ⟨_, rfl, a.p, CH, a.dx, _, _, rfl, h1, c.cls, c.dock, rfl, a.da.p, a.da.dx, _, rfl, g1, rfl, a.da, Bm.D, rfl, h4, hpo, fun da H1 fr k1 D1 => ?_⟩
      have hB1 := hB.kp k1 (by simp)
      have hn := htab.n
      refine ⟨_, rfl, n, rfl, by omega, by omega, for_it (walk_range (lo := 0) (n := (n : Int).toNat)) (fun j σ H => ∃ o Dj, σ = [some (.ref a.p), some (.int n), some (.ref da.p), o] ∧ daysM j Bm.D = some Dj ∧ Kp da.foot H1 H ∧ DockAt CD H da Dj) ⟨none, Bm.D, rfl, rfl, Kp.refl _, D1⟩ (fun _ _ _ _ _ => trivial) ?_ ?_⟩
      · rintro j x σ H2 H3 hj ⟨o, Dj, rfl, hdj, k2, D2⟩ ⟨rfl, rfl⟩
        rw [Int.toNat_natCast] at hj
        obtain ⟨ok2, sc2, _⟩ := daysM_ok hok hdj
        obtain ⟨⟨tv2, pv2, skvs2, ukvs2, i1, i2, i3, i4, i5, i6, i7, i8⟩, _⟩ := id D2
        have hb : N + j * Bm.D.ss.length ≤ 800000 := by
          have : j * Bm.D.ss.length ≤ 200 * 24 := Nat.mul_le_mul (by omega) hn
          omega
        refine ⟨_, rfl, da.p, da.dx, _, rfl, i1, rfl, da, Dj, _, rfl, D2, ok2, hb, ⟨by rw [sc2.h]; exact htab.h1, by rw [sc2.h]; exact htab.h2, by rw [sc2.ss]; exact htab.n⟩, fun Dj1 cs p xs H4 hd2 _ _ k4 _ _ D4 => ?_, fun e x H4 hl k4 hx ex => ?_⟩
        · refine ⟨_, Dj1, rfl, ?_, k2.trans k4, D4⟩
          show (daysM j Bm.D).bind (fun D' => (dayM D').map (·.2)) = _
          rw [hdj]
          show (dayM Dj).map (·.2) = _
          rw [hd2]
          rfl
        · have hxd : x ∉ da.foot := D2.foot_ne hx
          exact q2 Dj.day e x H4 ⟨j, Dj, by omega, hdj, hl, rfl⟩ (((k1.mono (S' := da.foot) (by simp)).trans (k2.trans k4)).less (fun b hb => .inr (fr b hb))) (k1.free (k2.freeS hx hxd)) ex
      · rintro σ H2 ⟨o, Dj, rfl, hdj, k2, D2⟩
        rw [Int.toNat_natCast] at hdj
        have nda : ∀ x ∈ a.all, x ∉ da.foot := fun x hx z => hB.live x hx (fr x z)
        have hB2 := hB1.kp k2 nda
        obtain ⟨⟨tv2, pv2, es2, j1, j2, j3, j4, j5, j6⟩, np2⟩ := id hB2
        have k02 : Kp [] H H2 := ((k1.mono (S' := da.foot) (by simp)).trans k2).less (fun b hb => .inr (fr b hb))
        refine ⟨_, rfl, a.p, a.dx, _, rfl, j1, rfl, _, rfl, (show (2:Nat) ≤ sizeLine from by decide), fun t ht => ?_⟩
        have k3 : Kp [] H2 (upd H2 t (.tup [.str "advance", .int (n : Int)])) := Kp.new ht
        have t3 : Tp (upd H2 t (.tup [.str "advance", .int (n : Int)])) (.ref t) (.tuple [.str "advance", .int (n : Int)]) := .tup upd_same (.cons (.str _) (.cons (.int _) .nil))
        generalize (upd H2 t (.tup [.str "advance", .int (n : Int)])) = H3 at k3 t3 ⊢
        have hB3 := hB2.kp k3 (by simp)
        obtain ⟨⟨tv3, pv3, es3, l1, l2, l3, l4, l5, l6⟩, np3⟩ := id hB3
        refine ⟨_, rfl, a.p, CH, a.dx, _, _, rfl, l1, c.cls, c.timetable, rfl, _, rfl, _, rfl, a.p, CH, a.dx, _, _, rfl, l1, c.cls, c.today, rfl, _, rfl, _, _, rfl, rfl, ?_⟩
        refine ⟨a, Bm, .ref t, tv3, _, Bm.h, Bm.ss, da, Dj, Bm.day + n, rfl, hB3, t3, l2, D2.kp k3 (by simp), fun x hx => ⟨fun z => nda a.p (by simp [HA.all]) (z ▸ hx), fun z => nda a.hl (by simp [HA.all]) (z ▸ hx)⟩, hz, fun H4 k4 hB4 => ?_⟩
        exact q Dj da H4 hdj fr ((k02.mono (by simp)).trans ((k3.mono (by simp)).trans k4)) hB4
end
end Ba

set_option maxHeartbeats 400000
namespace Ba
open PySem PySem.Spec PyProof.Rows L2
section
variable {P : Program} {w : World} {K : PySem.W.Frag} {mg : Str → Option Value} {base : Heap} {f : Addr} {fd : FuncData}
def repM (B : Hb) (ss : List (Int × Int)) : Hb := { B with ss := ss, D := { B.D with h := B.h, ss := ss }, hist := B.hist ++ [⟨.tuple [.str "replace", tbD B.h ss], B.h, B.ss, B.D, B.day⟩] }
abbrev spHarbRep (K : PySem.W.Frag) (CD CH CT CP : Addr) : Sp := Pr fun vs H Q E => ∃ (a : HA) (B : Hb) (v : V), vs = [.ref a.p, v] ∧ HarbAt CD CH H a B ∧ PolOk B.D.pol ∧ B.hist.length < 1000000 ∧
  ((∃ t, TyX K H v (.type t) ∧ kitB t "tuple" = some false ∧ E (.ref CT) none H) ∨ ∃ d, Dp K H v d ∧ (isShapeD d = true → Tp H v d) ∧
    ((isTableD d = false ∧ ∀ H', Kp [] H H' → E (.ref CT) none H') ∨ (isTableD d = true ∧
      (((tabOf d).1 ≠ B.h ∧ ∀ H', Kp [] H H' → E (.ref CT) none H') ∨ ((tabOf d).1 = B.h ∧
        ((isPolicyD B.h (tabOf d).2 (polD B.pol) = false ∧ ∀ H', Kp [] H H' → E (.ref CP) none H') ∨ (isPolicyD B.h (tabOf d).2 (polD B.pol) = true ∧
          ∀ (da : DA) H', (∀ x ∈ da.foot, H x = none) → Kp a.mut H H' → HarbAt CD CH H' ⟨a.p, a.dx, da, a.hl, a.das ++ [a.da]⟩ (repM B (tabOf d).2) → Q .non H')))))))
theorem ok_Harbour_replace {CD CH CT CP : Addr} (c : HarbC K CH) (cl_Dock : Cls K CD) (cl_Harbour : Cls K CH) (E_NoTable : ExcOk K mg "NoTable" CT) (D_require_table : DefOk P w K mg base "require_table" 5 p_require_table [] (spReqTable K CT)) (D_require_policy : DefOk P w K mg base "require_policy" 5 p_require_policy [] (spReqPolicy K CP))
    (D_Dock_copy : MetOk P w K mg base CD "copy" 3 p_Dock_copy [] (spDockCopy CD)) (D_Dock_switch : MetOk P w K mg base CD "switch" 1 p_Dock_switch [] (spDockSwitch CD))
    (D_Harbour_commit : MetOk P w K mg base CH "commit" 1 p_Harbour_commit [] (spHarbCommit CD CH)) (F : FunS K "replace" "Harbour.replace" s_Harbour_replace [] [] f fd) :
    FnOk P w K mg base (L2N.CX P w) 6 f fd p_Harbour_replace (spHarbRep K CD CH CT CP) := by
  have S := sc_Harbour_replace
  refine F.ok S (fun vs H Q E h => ?_) (fun cdv A outer s H vs Q E hr h => ?_)
  · obtain ⟨a, B, v, rfl, _⟩ := h
    rfl
  · obtain ⟨a, Bm, v, rfl, hB, hpo, hz, hh⟩ := h
    refine ⟨_, (pss_cons (ps_expr (pe_fn D_require_table (hr.mono (by decide)) passB rfl (pa_cons (pv 1) pa_nil)))
      (pss_cons (ps_if (pt_cmpR op_ne (pe_ix ix_tup (pv 1) pe_int (fun _ _ => rfl)) (pe_ix ix_tup (pe_fld (pv 0) rfl) pe_int (fun _ _ => rfl)) (nomark _)) (pss_one (L2N.ps_raise rfl takesB (L2N.pmk_own PySem.F.excBase_ValueError E_NoTable.x E_NoTable.g E_NoTable.k (raises_own E_NoTable.e E_NoTable.t) (by exact rfl)))) pss_nil)
      (pss_cons (ps_expr (pe_fn D_require_policy (hr.mono (by decide)) passB rfl (pa_cons (pv 1) (pa_cons (pe_fld (pv 0) rfl) pa_nil))))
      (pss_cons (ps_set (i := 2) S.nd rfl (Or.inl rfl) (pe_met0 (pe_fld (pv 0) rfl) cl_Dock D_Dock_copy (hr.mono (by decide)) passLB))
      (pss_cons (ps_expr (pe_met (pv 2) cl_Dock D_Dock_switch (hr.mono (by decide)) passLB (pa_cons (pv 1) pa_nil)))
      (pss_one (ps_expr (pe_met (pv 0) cl_Harbour D_Harbour_commit (hr.mono (by decide)) passLB (pa_cons (pe_tup (pa_cons pe_str (pa_cons (pv 1) pa_nil))) (pa_cons (pv 1) (pa_cons (pv 2) (pa_cons (pe_fld (pv 0) rfl) pa_nil)))))))))))), ?_⟩
    rcases hh with ⟨t, ty, hk, q⟩ | ⟨d, hd, htp, hh⟩
    · exact ⟨_, rfl, v, rfl, .inl ⟨t, ty, hk, q⟩⟩
    refine ⟨_, rfl, v, rfl, .inr ⟨d, hd, htp, fun H1 k1 => ?_⟩⟩
    rcases hh with ⟨e1, q⟩ | ⟨e1, hh⟩
    · exact iteF' e1 (q H1 k1)
    refine iteT' e1 ?_
    have esh : isShapeD d = true := by
      unfold isTableD at e1
      rw [Bool.and_eq_true] at e1
      exact e1.1
    obtain ⟨ed, tV⟩ := isShapeD_eq esh
    have hv : Tp H v (tbD (tabOf d).1 (tabOf d).2) := by
      have := htp esh
      rwa [ed] at this
    generalize (tabOf d).1 = h at hh tV hv
    generalize (tabOf d).2 = ss at hh tV hv
    have B1 := hB.kp k1 (by simp)
    have v1 := hv.kp k1
    obtain ⟨⟨tv1, pv1, es1, h1, h2, h3, h4, h5, h6⟩, np⟩ := id B1
    obtain ⟨ta, tb, xs, rfl, hta, htb, hx⟩ := tp_table v1
    obtain ⟨ua, ub, ys, rfl, hua, hub, hy⟩ := tp_table h2
    refine ⟨_, rfl, ta, _, _, _, rfl, rfl, SqT.of hta, rfl, _, rfl, a.p, CH, a.dx, _, _, rfl, h1, c.cls, c.timetable, rfl, ua, _, _, _, rfl, rfl, SqT.of hua, rfl, rfl, _, rfl, ?_⟩
    rcases hh with ⟨e2, q⟩ | ⟨rfl, hh⟩
    · refine iteNN (fun z => e2 (by injection z)) ?_
      exact q H1 k1
    refine iteNS rfl ?_
    refine ⟨_, rfl, _, rfl, a.p, CH, a.dx, _, _, rfl, h1, c.cls, c.policy, rfl, .ref ta, pv1, Bm.h, ss, rfl, v1, tV.ok, .inr ⟨_, ⟨Tp.dp _ _ h3, polD_plain _, polD_depth _⟩, fun H2 k2 => ?_⟩⟩
    rcases hh with ⟨e3, q⟩ | ⟨e3, q⟩
    · exact iteF' e3 (q H2 (k1.trans k2))
    refine iteT' e3 ?_
    have k12 := k1.trans k2
    have B2 := hB.kp k12 (by simp)
    have v2 := v1.kp k2
    obtain ⟨⟨tv2, pv2, es2, i1, i2, i3, i4, i5, i6⟩, np2⟩ := id B2
    obtain ⟨⟨tvd, pvd, skvs, ukvs, g1, g2, g3, g4, g5, g6, g7, g8⟩, su⟩ := id i4
    refine ⟨_, rfl, a.p, CH, a.dx, _, _, rfl, i1, c.cls, c.dock, rfl, a.da.p, a.da.dx, _, rfl, g1, rfl, a.da, Bm.D, rfl, i4, hpo, fun da H3 fr k3 D3 => ?_⟩
    obtain ⟨⟨tve, pve, skve, ukve, j1, j2, j3, j4, j5, j6, j7, j8⟩, su3⟩ := id D3
    refine ⟨_, rfl, da.p, da.dx, _, rfl, j1, rfl, _, rfl, da, Bm.D, .ref ta, Bm.h, ss, rfl, D3, v2.kp k3, fun H4 k4 D4 => ?_⟩
    have fr0 : ∀ x ∈ da.foot, H x = none := fun x hx => k12.free (fr x hx)
    have B3 := B2.kp k3 (by simp)
    have nda : ∀ x ∈ a.all, x ∉ da.foot := fun x hx z => hB.live x hx (fr0 x z)
    have B4 := B3.kp k4 nda
    have k04 : Kp [] H H4 := (((k12.trans k3).mono (S' := da.foot) (by simp)).trans k4).less (fun b hb => .inr (fr0 b hb))
    have v4 := hv.kp k04
    obtain ⟨⟨tv4, pv4, es4, l1, l2, l3, l4, l5, l6⟩, np4⟩ := id B4
    refine ⟨_, rfl, a.p, a.dx, _, rfl, l1, rfl, _, rfl, (show (2:Nat) ≤ sizeLine from by decide), fun t ht => ?_⟩
    have kt : Kp [] H4 (upd H4 t (.tup [.str "replace", .ref ta])) := Kp.new ht
    have t5 : Tp (upd H4 t (.tup [.str "replace", .ref ta])) (.ref t) (.tuple [.str "replace", tbD Bm.h ss]) := .tup upd_same (.cons (.str _) (.cons (v4.kp kt) .nil))
    generalize (upd H4 t (.tup [.str "replace", .ref ta])) = H5 at kt t5 ⊢
    have B5 := B4.kp kt (by simp)
    obtain ⟨⟨tv5, pv5, es5, m1, m2, m3, m4, m5, m6⟩, np5⟩ := id B5
    refine ⟨_, rfl, _, rfl, _, rfl, a.p, CH, a.dx, _, _, rfl, m1, c.cls, c.today, rfl, ?_⟩
    refine ⟨a, Bm, .ref t, .ref ta, _, Bm.h, ss, da, { Bm.D with h := Bm.h, ss := ss }, Bm.day, rfl, B5, t5, v4.kp kt, D4.kp kt (by simp), fun x hx => ⟨fun z => nda a.p (by simp [HA.all]) (z ▸ hx), fun z => nda a.hl (by simp [HA.all]) (z ▸ hx)⟩, hz, fun H6 k6 B6 => ?_⟩
    exact q da H6 fr0 ((k04.mono (by simp)).trans ((kt.mono (by simp)).trans k6)) B6
end
end Ba

set_option maxHeartbeats 400000
namespace Ba
open PySem PySem.Spec PyProof.Rows L2
theorem HistAt.split {CD : Addr} {H : Hp} : ∀ {es : List V} {das : List DA} {xs : List HE} {y : HE}, HistAt CD H es das (xs ++ [y]) → ∃ es' e das' da ov tv, es = es' ++ [.ref e] ∧ das = das' ++ [da] ∧ HistAt CD H es' das' xs ∧ H e = some (.tup [ov, tv, .ref da.p, .int y.day]) ∧ Tp H ov y.op ∧ Tp H tv (tbD y.h y.ss) ∧ DockAt CD H da y.D
  | _, _, [], y, h => by
    cases h with
    | cons h1 h2 h3 h4 t =>
      cases t
      exact ⟨[], _, [], _, _, _, rfl, rfl, .nil, h1, h2, h3, h4⟩
  | _, _, x :: xs, y, h => by
    cases h with
    | cons h1 h2 h3 h4 t =>
      obtain ⟨es', e, das', da, ov, tv, rfl, rfl, r1, r2⟩ := HistAt.split t
      exact ⟨_ :: es', e, _ :: das', da, ov, tv, rfl, rfl, .cons h1 h2 h3 h4 r1, r2⟩
def undoM (B : Hb) (hist : List HE) (e : HE) : Hb := { B with h := e.h, ss := e.ss, D := e.D, day := e.day, hist := hist }
theorem tbD_plain (h : Int) (ss : List (Int × Int)) : (tbD h ss).plain = true := by
  show (PyData.plain (.int h) && (PyData.plainAll (ss.map shD) && true)) = true
  rw [plain_pairs]; rfl
theorem tbD_depth (h : Int) (ss : List (Int × Int)) : (tbD h ss).depth ≤ 3 := by
  have := depth_pairs ss
  show max 0 (max (PyData.depthAll (ss.map shD) + 1) 0) + 1 ≤ 3
  omega
end Ba

set_option maxHeartbeats 400000
namespace Ba
open PySem PySem.Spec PyProof.Rows L2
section
variable {P : Program} {w : World} {K : PySem.W.Frag} {mg : Str → Option Value} {base : Heap} {f : Addr} {fd : FuncData}
abbrev spHarbUndo (CD CH CN : Addr) : Sp := Pr fun vs H Q E => ∃ (a : HA) (B : Hb), vs = [.ref a.p] ∧ HarbAt CD CH H a B ∧
  ((B.hist = [] ∧ ∀ H', Kp [] H H' → E (.ref CN) none H') ∨ ∃ hist e, B.hist = hist ++ [e] ∧
    ∀ (da : DA) (das : List DA) H', a.das = das ++ [da] → Kp a.mut H H' → HarbAt CD CH H' ⟨a.p, a.dx, da, a.hl, das⟩ (undoM B hist e) → Q .non H')
theorem ok_Harbour_undo {CD CH CN : Addr} (c : HarbC K CH) (E_Nothing : ExcOk K mg "Nothing" CN) (F : FunS K "undo" "Harbour.undo" s_Harbour_undo [] [] f fd) :
    FnOk P w K mg base (L2N.CX P w) 1 f fd p_Harbour_undo (spHarbUndo CD CH CN) := by
  have S := sc_Harbour_undo
  refine F.ok S (fun vs H Q E h => ?_) (fun cdv A outer s H vs Q E hr h => ?_)
  · obtain ⟨a, B, rfl, _⟩ := h
    rfl
  · obtain ⟨a, Bm, rfl, hB, hh⟩ := h
    refine ⟨_, (pss_cons (ps_if (pt_cmpR (op_eqNil hr.units0) (pe_fld (pv 0) rfl) (pe_lst pa_nil) (nomark _)) (pss_one (L2N.ps_raise rfl takesB (L2N.pmk_own PySem.F.excBase_ValueError E_Nothing.x E_Nothing.g E_Nothing.k (raises_own E_Nothing.e E_Nothing.t) (by exact rfl)))) pss_nil)
      (pss_one (ps_asg (pe_bm0 PySem.F.plainAttrs_list PySem.F.slot_list_pop PySem.F.type_list_pop mt_pop (pe_fld (pv 0) rfl)) (pg_tup rfl (pgs_cons (pg_name (i := 1) S.nd rfl (Or.inl rfl)) (pgs_cons (pg_fld (pv 0)) (pgs_cons (pg_fld (pv 0)) (pgs_cons (pg_fld (pv 0)) pgs_nil)))))))), ?_⟩
    obtain ⟨⟨tv, pv, es, h1, h2, h3, h4, h5, h6⟩, np⟩ := id hB
    have hpl : a.p ≠ a.hl := fun z => by rw [z, h5] at h1; cases h1
    refine ⟨_, rfl, a.p, CH, a.dx, _, _, rfl, h1, c.cls, c.history, rfl, (show (0:Nat) ≤ sizeLine from by decide), fun l hl => ?_⟩
    have k1 : Kp [] H (upd H l (.lst [])) := Kp.new hl
    have hl1 : (upd H l (.lst [])) l = some (.lst []) := upd_same
    generalize upd H l (.lst []) = H1 at k1 hl1 ⊢
    have B1 := hB.kp k1 (by simp)
    obtain ⟨⟨tv1, pv1, es1, g1, g2, g3, g4, g5, g6⟩, np1⟩ := id B1
    have ees : es1 = es := by
      have := k1.keep _ _ h5 (by simp)
      rw [g5] at this
      injection this with z
      injection z
    subst ees
    refine ⟨a.hl, l, es1, rfl, rfl, g5, hl1, _, rfl, ?_⟩
    rcases hh with ⟨e0, q⟩ | ⟨hist, e, e0, q⟩
    · have : es1 = [] := by
        rw [e0] at g6
        exact List.length_eq_zero_iff.mp g6.len
      rw [this]
      exact iteT' rfl (q H1 k1)
    rw [e0] at g6
    obtain ⟨es', ea, das', da, ov, tve, ees, eda, r1, r2, r3, r4, r5⟩ := g6.split
    subst ees
    have hne : (es' ++ [V.ref ea]).isEmpty = false := by
      cases es' <;> rfl
    rw [hne]
    refine iteF' rfl ?_
    refine ⟨_, rfl, a.p, CH, a.dx, _, _, rfl, g1, c.cls, c.history, rfl, .inl ⟨rfl, _, SqL.of g5⟩, a.hl, _, .ref ea, rfl, rfl, g5, ?_, ?_⟩
    · rw [List.length_append]
      simp
    rw [List.dropLast_concat]
    have k2 : Kp a.mut H1 (upd H1 a.hl (.lst es')) := (Kp.refl _).put (by simp [HA.mut]) g5 lst_nt
    have e2 : (upd H1 a.hl (.lst es')) a.hl = some (.lst es') := upd_same
    have p2 : (upd H1 a.hl (.lst es')) a.p = _ := (upd_ne hpl).trans g1
    generalize upd H1 a.hl (.lst es') = H2 at k2 e2 p2 ⊢
    refine ⟨ea, _, rfl, SqT.of (k2.tup _ _ r2), rfl, _, _, rfl, ?_⟩
    refine ⟨_, _, rfl, _, rfl, a.p, CH, a.dx, _, rfl, p2, c.cls, c.timetable, (show (5:Nat) < 1000 from by decide), ?_⟩
    have p3 : (upd H2 a.p (.ins CH a.dx (putF "timetable" tve (hbF tv1 pv1 a.da.p Bm.day a.hl)))) a.p = some (.ins CH a.dx (hbF tve pv1 a.da.p Bm.day a.hl)) := upd_same
    have k3 : Kp a.mut H2 (upd H2 a.p (.ins CH a.dx (putF "timetable" tve (hbF tv1 pv1 a.da.p Bm.day a.hl)))) := (Kp.refl _).put (by simp [HA.mut]) p2 ins_nt
    have e3 := (upd_ne (H := H2) (o := (.ins CH a.dx (putF "timetable" tve (hbF tv1 pv1 a.da.p Bm.day a.hl)))) hpl.symm).trans e2
    generalize (upd H2 a.p (.ins CH a.dx (putF "timetable" tve (hbF tv1 pv1 a.da.p Bm.day a.hl)))) = H3 at k3 p3 e3 ⊢
    refine ⟨_, _, rfl, _, rfl, a.p, CH, a.dx, _, rfl, p3, c.cls, c.dock, (show (5:Nat) < 1000 from by decide), ?_⟩
    have p4 : (upd H3 a.p (.ins CH a.dx (putF "dock" (.ref da.p) (hbF tve pv1 a.da.p Bm.day a.hl)))) a.p = some (.ins CH a.dx (hbF tve pv1 da.p Bm.day a.hl)) := upd_same
    have k4 : Kp a.mut H3 (upd H3 a.p (.ins CH a.dx (putF "dock" (.ref da.p) (hbF tve pv1 a.da.p Bm.day a.hl)))) := (Kp.refl _).put (by simp [HA.mut]) p3 ins_nt
    have e4 := (upd_ne (H := H3) (o := (.ins CH a.dx (putF "dock" (.ref da.p) (hbF tve pv1 a.da.p Bm.day a.hl)))) hpl.symm).trans e3
    generalize (upd H3 a.p (.ins CH a.dx (putF "dock" (.ref da.p) (hbF tve pv1 a.da.p Bm.day a.hl)))) = H4 at k4 p4 e4 ⊢
    refine ⟨_, _, rfl, _, rfl, a.p, CH, a.dx, _, rfl, p4, c.cls, c.today, (show (5:Nat) < 1000 from by decide), rfl, ?_⟩
    have k5 : Kp a.mut H4 (upd H4 a.p (.ins CH a.dx (putF "today" (.int e.day) (hbF tve pv1 da.p Bm.day a.hl)))) := (Kp.refl _).put (by simp [HA.mut]) p4 ins_nt
    have e5 := (upd_ne (H := H4) (o := (.ins CH a.dx (putF "today" (.int e.day) (hbF tve pv1 da.p Bm.day a.hl)))) hpl.symm).trans e4
    have kA : Kp a.mut H1 (upd H4 a.p (.ins CH a.dx (putF "today" (.int e.day) (hbF tve pv1 da.p Bm.day a.hl)))) := ((k2.trans k3).trans k4).trans k5
    have nm : ∀ x ∈ a.da.foot ++ a.das.flatMap DA.foot, x ∉ a.mut := fun x hx z => by
      obtain ⟨n1, n2⟩ := np x hx
      have z : x = a.p ∨ x = a.hl := by simpa [HA.mut] using z
      rcases z with z | z
      · exact n1 z
      · exact n2 z
    have sub : ∀ x ∈ da.foot ++ das'.flatMap DA.foot, x ∈ a.da.foot ++ a.das.flatMap DA.foot := fun x hx => by
      rw [eda, List.flatMap_append]
      rcases List.mem_append.mp hx with hx | hx
      · exact List.mem_append_right _ (List.mem_append_right _ (by simpa using hx))
      · exact List.mem_append_right _ (List.mem_append_left _ hx)
    refine q da das' _ eda ((k1.mono (by simp)).trans kA) ⟨⟨tve, pv1, es', upd_same, r4.kp kA, g3.kp kA, r5.kp kA (fun x hx => nm x (sub x (List.mem_append_left _ hx))), e5, r1.kp kA (fun x hx => nm x (sub x (List.mem_append_right _ hx)))⟩, fun x hx => np x (sub x hx)⟩
end
end Ba

set_option maxHeartbeats 400000
namespace Ba
open PySem PySem.Spec PyProof.Rows L2
/-! ### the law's draws -/
structure PailAt (H : Hp) (a : Addr) (Z : Int) : Prop where
  ex : ∃ x y z : Int, H a = some (.lst [.int x, .int y, .int z]) ∧ 0 ≤ x ∧ 0 ≤ y ∧ y < 2 ^ 200 ∧ 0 ≤ z ∧ z ≤ Z
theorem PailAt.kp {H H' : Hp} {a : Addr} {Z : Int} {S : List Addr} (p : PailAt H a Z) (k : Kp S H H') (n : a ∉ S) : PailAt H' a Z := by
  obtain ⟨x, y, z, h, r⟩ := p
  exact ⟨x, y, z, k.keep _ _ h n, r⟩
theorem PailAt.mono {H : Hp} {a : Addr} {Z Z' : Int} (p : PailAt H a Z) (h : Z ≤ Z') : PailAt H a Z' := by
  obtain ⟨x, y, z, h1, h2, h3, h4, h5, h6⟩ := p
  exact ⟨x, y, z, h1, h2, h3, h4, h5, Int.le_trans h6 h⟩
theorem cpw {i j : Int} (h : i.natAbs < 2 ^ 400) (h0 : 0 ≤ j) (h1 : j ≤ 1000) : CPowW i j := ⟨h0, h1, Nat.lt_of_lt_of_le h (Nat.pow_le_pow_right (by decide) (by decide))⟩
section
variable {P : Program} {w : World} {K : PySem.W.Frag} {mg : Str → Option Value} {base : Heap} {f : Addr} {fd : FuncData}
abbrev spPail (K : PySem.W.Frag) : Sp := Pr fun vs H Q _ => ∃ (a : Addr) (ns : List Int) (k : Nat), vs = [.ref a, .int (k : Int)] ∧ SqL K H a (ns.map V.int) ∧ k < 1000000 ∧ ∀ p H', H p = none → Kp [] H H' → PailAt H' p 0 → Q (.ref p) H'
theorem ok_law_pail (B : Bi mg) (F : FunS K "_law_pail" "_law_pail" s__law_pail [] [] f fd) (hm : mg "_law_pail" = some (.ref f)) : DefOk P w K mg base "_law_pail" 1 p__law_pail [] (spPail K) := by
  have S := sc__law_pail
  refine defOk F hm S (fun _ _ _ _ _ _ us hl => match us, hl with | [_, _], _ => rfl) (fun vs H Q E h => ?_) (fun cdv A outer s H vs Q E hr h => ?_)
  · obtain ⟨_, _, _, rfl, _⟩ := h
    rfl
  · obtain ⟨a, ns, k, rfl, ha, hk, q⟩ := h
    refine ⟨_, (pss_cons (ps_set (i := 2) S.nd rfl (Or.inl rfl) pe_int)
      (pss_cons (ps_if (pt_cmpR op_lt (pv 1) (pe_callB call_len_seq (by rfl) B.len (by decide +kernel) (pa_cons (pv 0) pa_nil)) (nomark _)) (pss_one (ps_set (i := 2) S.nd rfl (Or.inl rfl) (pe_ix ix_list (pv 0) (pv 1) (fun _ _ => rfl)))) pss_nil)
      (pss_one (ps_ret (pe_lst (pa_cons (pe_callB (call_max2 rfl) (by rfl) B.max (by decide +kernel) (pa_cons pe_int (pa_cons (pe_op op_sub (pv 2) (pe_op op_powW pe_int pe_int)) pa_nil))) (pa_cons (pe_op op_add (pe_op op_mul (pe_op op_mod (pv 2) pe_int) pe_int) (pv 1)) (pa_cons pe_int pa_nil)))))))), ?_⟩
    have fin : ∀ (c : Int) (p : Addr), H p = none → PailAt (upd H p (.lst [.int (if c - 10 ^ (18 : Int).toNat > 0 then c - 10 ^ (18 : Int).toNat else 0), .int (c % 162259276829213363391578010288127 * 64 + k), .int 0])) p 0 := fun c p hp => by
      refine ⟨_, _, _, upd_same, ?_, ?_, ?_, Int.le_refl _, Int.le_refl _⟩
      · split <;> omega
      · omega
      · omega
    refine ⟨_, rfl, _, rfl, a, _, rfl, .inl ha, _, _, rfl, rfl, _, rfl, ?_⟩
    by_cases hlt : k < ns.length
    · refine iteT' (decide_eq_true (by rw [List.length_map]; omega)) ?_
      refine ⟨_, rfl, _, rfl, a, _, _, _, rfl, rfl, ha, atI_nat (show (ns.map V.int)[k]? = some (.int ns[k]) by rw [List.getElem?_map, List.getElem?_eq_getElem hlt]; rfl), ?_⟩
      refine ⟨_, rfl, _, _, rfl, rfl, cpw (by decide) (by decide) (by decide), _, _, rfl, rfl, _, _, rfl, _, rfl, _, _, rfl, rfl, (show (0:Int) < _ from by decide), _, _, rfl, rfl, .inr (by decide), _, rfl, _, _, rfl, rfl, (show (3:Nat) ≤ sizeLine from by decide), fun p hp => ?_⟩
      exact q p _ hp (Kp.new hp) (fin _ p hp)
    · refine iteF' (decide_eq_false (by rw [List.length_map]; omega)) ?_
      refine ⟨_, rfl, _, _, rfl, rfl, cpw (by decide) (by decide) (by decide), _, _, rfl, rfl, _, _, rfl, _, rfl, _, _, rfl, rfl, (show (0:Int) < _ from by decide), _, _, rfl, rfl, .inr (by decide), _, rfl, _, _, rfl, rfl, (show (3:Nat) ≤ sizeLine from by decide), fun p hp => ?_⟩
      exact q p _ hp (Kp.new hp) (fin _ p hp)
abbrev spDip : Sp := Pr fun vs H Q _ => ∃ (a : Addr) (many Z : Int), vs = [.ref a, .int many] ∧ PailAt H a Z ∧ Z < 2 ^ 60 ∧ 1 ≤ many ∧ many < 1073741824 ∧ ∀ r H', 0 ≤ r → r < many → Kp [a] H H' → PailAt H' a (Z + 1) → Q (.int r) H'
theorem abs_lt {i : Int} {n : Nat} (h0 : 0 ≤ i) (h : i < (n : Int)) : i.natAbs < n := by omega
theorem ok_law_dip (F : FunS K "_law_dip" "_law_dip" s__law_dip [] [] f fd) (hm : mg "_law_dip" = some (.ref f)) : DefOk P w K mg base "_law_dip" 1 p__law_dip [] spDip := by
  have S := sc__law_dip
  refine defOk F hm S (fun _ _ _ _ _ _ us hl => match us, hl with | [_, _], _ => rfl) (fun vs H Q E h => ?_) (fun cdv A outer s H vs Q E hr h => ?_)
  · obtain ⟨_, _, _, rfl, _⟩ := h
    rfl
  · obtain ⟨a, many, Z, rfl, ⟨x, y, z, ha, hx, hy, hy2, hz, hz2⟩, hZ, hm1, hm2, q⟩ := h
    refine ⟨_, (pss_cons (ps_if (pt_cmpR op_gt (pe_ix ix_list (pv 0) pe_int (fun _ _ => rfl)) pe_int (nomark _)) (pss_cons (ps_set (i := 2) S.nd rfl (Or.inl rfl) (pe_op op_mod (pe_ix ix_list (pv 0) pe_int (fun _ _ => rfl)) (pv 1)))
      (pss_cons (ps_asg (pe_op op_fdiv (pe_ix ix_list (pv 0) pe_int (fun _ _ => rfl)) (pv 1)) (pg_sub (pv 0) pe_int set_list))
      (pss_one (ps_ret (pv 2))))) pss_nil)
      (pss_cons (ps_asg (pe_op op_add (pe_ix ix_list (pv 0) pe_int (fun _ _ => rfl)) pe_int) (pg_sub (pv 0) pe_int set_list))
      (pss_cons (ps_set (i := 3) S.nd rfl (Or.inl rfl) (pe_op op_mod (pe_op op_powW (pe_op op_add (pe_ix ix_list (pv 0) pe_int (fun _ _ => rfl)) (pe_op op_mul pe_int (pe_ix ix_list (pv 0) pe_int (fun _ _ => rfl)))) pe_int) pe_int))
      (pss_cons (ps_set (i := 3) S.nd rfl (Or.inl rfl) (pe_op op_mod (pe_op op_powW (pe_op op_add (pv 3) (pe_op op_mul (pe_op op_mul pe_int (pe_ix ix_list (pv 0) pe_int (fun _ _ => rfl))) (pe_ix ix_list (pv 0) pe_int (fun _ _ => rfl)))) pe_int) pe_int))
      (pss_one (ps_ret (pe_op op_mod (pe_op op_fdiv (pv 3) pe_int) (pv 1)))))))), ?_⟩
    refine ⟨_, rfl, a, _, _, _, rfl, rfl, SqL.of ha, rfl, _, _, rfl, rfl, _, rfl, ?_⟩
    by_cases hpos : 0 < x
    · refine iteT' (decide_eq_true hpos) ?_
      refine ⟨_, rfl, a, _, _, _, rfl, rfl, SqL.of ha, rfl, _, rfl, _, _, rfl, rfl, hm1, ?_⟩
      refine ⟨_, rfl, a, _, _, _, rfl, rfl, SqL.of ha, rfl, _, rfl, _, _, rfl, rfl, ⟨hm1, hm2⟩, _, rfl, a, _, _, _, rfl, rfl, ha, rfl, ?_⟩
      refine ⟨_, rfl, ?_⟩
      exact q _ _ (Int.emod_nonneg _ (by omega)) (Int.emod_lt_of_pos _ hm1) ((Kp.refl _).put (by simp) ha lst_nt) ⟨x / many, y, z, upd_same, Int.ediv_nonneg hx (by omega), hy, hy2, hz, by omega⟩
    · refine iteF' (decide_eq_false hpos) ?_
      refine ⟨_, rfl, a, _, _, _, rfl, rfl, SqL.of ha, rfl, _, _, rfl, rfl, _, rfl, a, _, _, _, rfl, rfl, ha, rfl, ?_⟩
      have k1 : Kp [a] H (upd H a (.lst [.int x, .int y, .int (z + 1)])) := (Kp.refl _).put (by simp) ha lst_nt
      have a1 : (upd H a (.lst [.int x, .int y, .int (z + 1)])) a = some (.lst [.int x, .int y, .int (z + 1)]) := upd_same
      generalize hH1 : upd H a _ = H1
      have e1 : H1 = upd H a (.lst [.int x, .int y, .int (z + 1)]) := hH1.symm
      rw [← e1] at k1 a1
      have b1 : (y + 2654435761 * (z + 1)).natAbs < 2 ^ 400 := Nat.lt_of_lt_of_le (abs_lt (n := 2 ^ 201) (by omega) (by omega)) (by decide)
      refine ⟨_, rfl, a, _, _, _, rfl, rfl, SqL.of a1, rfl, _, rfl, a, _, _, _, rfl, rfl, SqL.of a1, rfl, _, _, rfl, rfl, .inl (by decide), _, _, rfl, rfl, _, _, rfl, rfl, cpw b1 (by decide) (by decide), _, _, rfl, rfl, (show (0:Int) < _ from by decide), ?_⟩
      have hm3 : ∀ u : Int, 0 ≤ u % 170141183460469231731687303715884105727 ∧ u % 170141183460469231731687303715884105727 < 170141183460469231731687303715884105727 := fun u => by omega
      obtain ⟨m1, m2⟩ := hm3 ((y + 2654435761 * (z + 1)) ^ (3 : Int).toNat)
      have hzz : 0 ≤ 40692 * (z + 1) * (z + 1) ∧ 40692 * (z + 1) * (z + 1) < 2 ^ 140 := by
        refine ⟨Int.mul_nonneg (by omega) (by omega), ?_⟩
        have h1 : 40692 * (z + 1) ≤ 2 ^ 76 := by omega
        have h2 : z + 1 ≤ 2 ^ 60 := by omega
        have := Int.mul_le_mul h1 h2 (by omega) (by omega)
        omega
      have b2 : ∀ u : Int, 0 ≤ u → u < 170141183460469231731687303715884105727 → (u + 40692 * (z + 1) * (z + 1)).natAbs < 2 ^ 400 := fun u m1 m2 => Nat.lt_of_lt_of_le (abs_lt (n := 2 ^ 201) (by omega) (by omega)) (by decide)
      refine ⟨_, rfl, _, rfl, a, _, _, _, rfl, rfl, SqL.of a1, rfl, _, _, rfl, rfl, .inl (by decide), _, rfl, a, _, _, _, rfl, rfl, SqL.of a1, rfl, _, _, rfl, rfl, .inr ⟨by omega, by omega⟩, _, _, rfl, rfl, _, _, rfl, rfl, cpw (b2 _ m1 m2) (by decide) (by decide), _, _, rfl, rfl, (show (0:Int) < _ from by decide), ?_⟩
      refine ⟨_, rfl, _, _, rfl, rfl, ⟨by decide, by decide⟩, _, rfl, _, _, rfl, rfl, hm1, ?_⟩
      exact q _ _ (Int.emod_nonneg _ (by omega)) (Int.emod_lt_of_pos _ hm1) k1 ⟨x, y, z + 1, a1, hx, hy, hy2, by omega, by omega⟩
end
end Ba

set_option maxHeartbeats 400000
namespace Ba
open PySem PySem.Spec PyProof.Rows L2
structure DrawT (h most : Int) (ss : List (Int × Int)) : Prop where
  n : (ss.length : Int) ≤ most
  sh : ∀ s ∈ ss, 0 ≤ s.1 ∧ s.1 < h ∧ 1 ≤ s.2 ∧ s.2 ≤ 10 * h
  tl : ∀ s ∈ ss.tail, s.2 ≤ 2 * h
section
variable {P : Program} {w : World} {K : PySem.W.Frag} {mg : Str → Option Value} {base : Heap} {f : Addr} {fd : FuncData}
abbrev spHours : Sp := Pr fun vs H Q _ => ∃ (a : Addr) (Z : Int), vs = [.ref a] ∧ PailAt H a Z ∧ Z < 2 ^ 50 ∧ ∀ h H', 1 ≤ h → h ≤ 1000 → Kp [a] H H' → PailAt H' a (Z + 3) → Q (.int h) H'
theorem ok_law_hours (D__law_dip : DefOk P w K mg base "_law_dip" 1 p__law_dip [] spDip) (F : FunS K "_law_hours" "_law_hours" s__law_hours [] [] f fd) (hm : mg "_law_hours" = some (.ref f)) : DefOk P w K mg base "_law_hours" 2 p__law_hours [] spHours := by
  have S := sc__law_hours
  refine defOk F hm S (fun _ _ _ _ _ _ us hl => match us, hl with | [_], _ => rfl) (fun vs H Q E h => ?_) (fun cdv A outer s H vs Q E hr h => ?_)
  · obtain ⟨_, _, rfl, _⟩ := h
    rfl
  · obtain ⟨a, Z, rfl, hp, hZ, q⟩ := h
    refine ⟨_, (pss_one (ps_ret (pe_ix ix_list (pe_lst (pa_cons (pe_op op_add pe_int (pe_fn D__law_dip (hr.mono (by decide)) passLB rfl (pa_cons (pv 0) (pa_cons pe_int pa_nil)))) (pa_cons pe_int (pa_cons pe_int (pa_cons (pe_op op_add pe_int (pe_fn D__law_dip (hr.mono (by decide)) passLB rfl (pa_cons (pv 0) (pa_cons pe_int pa_nil)))) pa_nil))))) (pe_fn D__law_dip (hr.mono (by decide)) passLB rfl (pa_cons (pv 0) (pa_cons pe_int pa_nil))) (fun _ _ => rfl)))), ?_⟩
    refine ⟨_, rfl, a, 4, Z, rfl, hp, by omega, by decide, by decide, fun r1 H1 a1 b1 k1 p1 => ⟨_, _, rfl, rfl, ?_⟩⟩
    refine ⟨_, rfl, a, 1000, Z + 1, rfl, p1, by omega, by decide, by decide, fun r2 H2 a2 b2 k2 p2 => ⟨_, _, rfl, rfl, ?_⟩⟩
    refine ⟨(show (4:Nat) ≤ sizeLine from by decide), fun L hL => ?_⟩
    have kL : Kp [] H2 (upd H2 L (.lst [.int (1 + r1), .int 12, .int 24, .int (1 + r2)])) := Kp.new hL
    have eL : (upd H2 L (.lst [.int (1 + r1), .int 12, .int 24, .int (1 + r2)])) L = some (.lst [.int (1 + r1), .int 12, .int 24, .int (1 + r2)]) := upd_same
    generalize hG : upd H2 L _ = H3
    have e3 : H3 = upd H2 L (.lst [.int (1 + r1), .int 12, .int 24, .int (1 + r2)]) := hG.symm
    rw [← e3] at kL eL
    have hLa : L ≠ a := fun z => by
      obtain ⟨x, y, zz, ha, _⟩ := p2
      rw [z, ha] at hL; cases hL
    refine ⟨_, rfl, a, 4, Z + 1 + 1, rfl, p2.kp kL (by simp), by omega, by decide, by decide, fun r3 H4 a3 b3 k3 p3 => ?_⟩
    have eL4 := k3.keep _ _ eL (by simp [hLa])
    have kk := ((k1.trans k2).trans (kL.mono (S' := [a]) (by simp))).trans k3
    have h3 : r3 = 0 ∨ r3 = 1 ∨ r3 = 2 ∨ r3 = 3 := by omega
    have p3' := p3.mono (show Z + 1 + 1 + 1 ≤ Z + 3 by omega)
    rcases h3 with rfl | rfl | rfl | rfl
    · exact ⟨L, _, _, _, rfl, rfl, SqL.of eL4, rfl, q _ H4 (by omega) (by omega) kk p3'⟩
    · exact ⟨L, _, _, _, rfl, rfl, SqL.of eL4, rfl, q _ H4 (by omega) (by omega) kk p3'⟩
    · exact ⟨L, _, _, _, rfl, rfl, SqL.of eL4, rfl, q _ H4 (by omega) (by omega) kk p3'⟩
    · exact ⟨L, _, _, _, rfl, rfl, SqL.of eL4, rfl, q _ H4 (by omega) (by omega) kk p3'⟩
end
end Ba

set_option maxHeartbeats 400000
namespace Ba
open PySem PySem.Spec PyProof.Rows L2
theorem tpAll_cons {H : Hp} {vs : List V} {d : PyData} {ds : List PyData} (h : TpAll H vs (d :: ds)) : ∃ v vr, vs = v :: vr ∧ Tp H v d ∧ TpAll H vr ds := by
  cases h with
  | cons h1 h2 => exact ⟨_, _, rfl, h1, h2⟩
theorem eqv_nilP (l : List (Int × Int)) : PyData.eqv (.list (l.map shD)) (.list []) = l.isEmpty := by cases l <;> rfl
section
variable {P : Program} {w : World} {K : PySem.W.Frag} {mg : Str → Option Value} {base : Heap} {f : Addr} {fd : FuncData}
theorem PailAt.ne {H : Hp} {a L : Addr} {Z : Int} (p : PailAt H a Z) (h : H L = none) : L ≠ a := fun z => by
  obtain ⟨x, y, zz, ha, _⟩ := p
  rw [z, ha] at h; cases h
abbrev spTable : Sp := Pr fun vs H Q _ => ∃ (a : Addr) (h most Z : Int), vs = [.ref a, .int h, .int most] ∧ PailAt H a Z ∧ Z < 2 ^ 50 ∧ 1 ≤ h ∧ h ≤ 1000 ∧ 0 ≤ most ∧ most ≤ 24 ∧
  ∀ v ss H', DrawT h most ss → Kp [a] H H' → PailAt H' a (Z + 100) → Tp H' v (tbD h ss) → Q v H'
theorem ok_law_table (B : Bi mg) (D__law_dip : DefOk P w K mg base "_law_dip" 1 p__law_dip [] spDip) (F : FunS K "_law_table" "_law_table" s__law_table [] [] f fd) (hm : mg "_law_table" = some (.ref f)) : DefOk P w K mg base "_law_table" 2 p__law_table [] spTable := by
  have S := sc__law_table
  refine defOk F hm S (fun _ _ _ _ _ _ us hl => match us, hl with | [_, _, _], _ => rfl) (fun vs H Q E h => ?_) (fun cdv A outer s H vs Q E hr h => ?_)
  · obtain ⟨_, _, _, _, rfl, _⟩ := h
    rfl
  · obtain ⟨a, h, most, Z, rfl, hp, hZ, hh1, hh2, hm1, hm2, q⟩ := h
    refine ⟨_, (pss_cons (ps_set (i := 3) S.nd rfl (Or.inl rfl) (pe_lst pa_nil))
      (pss_cons (ps_for (passes_of rfl) rfl (pi_range1 (by rfl) B.range (pa_cons (pe_fn D__law_dip (hr.mono (by decide)) passLB rfl (pa_cons (pv 0) (pa_cons (pe_op op_add (pv 2) pe_int) pa_nil))) pa_nil)) (pg_name (i := 4) S.nd rfl (Or.inl rfl))
      (pss_cons (ps_set (i := 5) S.nd rfl (Or.inl rfl) (pe_ix ix_list (pe_lst (pa_cons (pv 1) (pa_cons (pe_op op_mul pe_int (pv 1)) pa_nil))) (pe_fn D__law_dip (hr.mono (by decide)) passLB rfl (pa_cons (pv 0) (pa_cons pe_int pa_nil))) (fun _ _ => rfl)))
      (pss_one (ps_expr (pe_bm PySem.F.plainAttrs_list PySem.F.slot_list_append PySem.F.type_list_append mt_append (pv 3) (pa_cons (pe_tup (pa_cons (pe_fn D__law_dip (hr.mono (by decide)) passLB rfl (pa_cons (pv 0) (pa_cons (pv 1) pa_nil))) (pa_cons (pe_op op_add pe_int (pe_fn D__law_dip (hr.mono (by decide)) passLB rfl (pa_cons (pv 0) (pa_cons (pv 5) pa_nil)))) pa_nil))) pa_nil))))))
      (pss_cons (ps_if (PW.pt (pw_and (pt_cmpR (op_neP hr.units) (pv 3) (pe_lst pa_nil) (nomark _)) (pw_and1 (pt_cmpR op_eq (pe_fn D__law_dip (hr.mono (by decide)) passLB rfl (pa_cons (pv 0) (pa_cons pe_int pa_nil))) pe_int (nomark _))))) (pss_one (ps_asg (pe_tup (pa_cons (pe_ix ix_tup (pe_ix ix_list (pv 3) pe_int (fun _ _ => rfl)) pe_int (fun _ _ => rfl)) (pa_cons (pe_op op_add pe_int (pe_fn D__law_dip (hr.mono (by decide)) passLB rfl (pa_cons (pv 0) (pa_cons (pe_op op_mul pe_int (pv 1)) pa_nil)))) pa_nil))) (pg_sub (pv 3) pe_int set_list))) pss_nil)
      (pss_one (ps_ret (pe_tup (pa_cons (pv 1) (pa_cons (pe_callTy call_tuple_of (by rfl) B.tuple (by decide +kernel) (pa_cons (pv 3) pa_nil)) pa_nil)))))))), ?_⟩
    refine ⟨(show (0:Nat) ≤ sizeLine from by decide), fun L hL => ?_⟩
    have kL : Kp [] H (upd H L (.lst [])) := Kp.new hL
    have eL : (upd H L (.lst [])) L = some (.lst []) := upd_same
    have hLa : L ≠ a := hp.ne hL
    generalize upd H L (.lst []) = H1 at kL eL ⊢
    refine ⟨_, rfl, _, rfl, _, _, rfl, rfl, a, _, Z, rfl, hp.kp kL (by simp), by omega, by omega, by omega, fun r H2 r0 r1 k2 p2 => ?_⟩
    have eL2 := k2.keep _ _ eL (by simp [hLa])
    have hLs : ∀ {X : Hp}, Kp [a, L] H1 X → Kp [a] H X := fun k => ((kL.mono (S' := [a, L]) (by simp)).trans k).less (fun b hb => by
      have hb : b = a ∨ b = L := by simpa using hb
      rcases hb with z | z
      · exact .inl (by simp [z])
      · exact .inr (by rw [z]; exact hL))
    refine ⟨r, rfl, by omega, by omega, for_it (walk_range (lo := 0) (n := r.toNat)) (fun i σ G => ∃ (o4 o5 : Option V) (acc : List V) (ss : List (Int × Int)), σ = [some (.ref a), some (.int h), some (.int most), some (.ref L), o4, o5] ∧ G L = some (.lst acc) ∧ TpAll G acc (ss.map shD) ∧ ss.length = i ∧ (∀ s ∈ ss, 0 ≤ s.1 ∧ s.1 < h ∧ 1 ≤ s.2 ∧ s.2 ≤ 2 * h) ∧ Kp [a, L] H1 G ∧ PailAt G a (Z + 1 + 3 * i))
      ⟨none, none, [], [], rfl, eL2, .nil, rfl, by simp, k2.mono (by simp), by simpa using p2⟩ (fun _ _ _ _ _ => trivial) ?_ ?_⟩
    · rintro i x σ H3 H4 hi ⟨o4, o5, acc, ss, rfl, hacc, hT, hsl, hb, k3, p3⟩ ⟨rfl, rfl⟩
      have hi24 : i < 24 := by omega
      -- wide
      refine ⟨_, rfl, _, rfl, _, _, rfl, rfl, .inl (by decide), (show (2:Nat) ≤ sizeLine from by decide), fun W hW => ?_⟩
      have kW : Kp [] H4 (upd H4 W (.lst [.int h, .int (2 * h)])) := Kp.new hW
      have eW : (upd H4 W (.lst [.int h, .int (2 * h)])) W = some (.lst [.int h, .int (2 * h)]) := upd_same
      have hWa : W ≠ a := p3.ne hW
      have hWL : W ≠ L := fun z => by rw [z, hacc] at hW; cases hW
      generalize hG : upd H4 W _ = H5
      have e5 : H5 = upd H4 W (.lst [.int h, .int (2 * h)]) := hG.symm
      rw [← e5] at kW eW
      refine ⟨_, rfl, a, 2, _, rfl, p3.kp kW (by simp), by omega, by decide, by decide, fun r1 H6 a1 b1 k6 p6 => ?_⟩
      obtain ⟨wd, hw1, hw2, hat⟩ : ∃ wd, (1 ≤ wd) ∧ wd ≤ 2 * h ∧ atI [V.int h, V.int (2 * h)] r1 = some (V.int wd) := by
        have : r1 = 0 ∨ r1 = 1 := by omega
        rcases this with rfl | rfl
        · exact ⟨h, by omega, by omega, rfl⟩
        · exact ⟨2 * h, by omega, by omega, rfl⟩
      refine ⟨W, _, _, _, rfl, rfl, SqL.of (k6.keep _ _ eW (by simp [hWa])), hat, ?_⟩
      -- append
      have hacc6 := k6.keep _ _ (kW.keep _ _ hacc (by simp)) (by simp [hLa])
      refine ⟨_, rfl, .inl ⟨rfl, _, SqL.of hacc6⟩, ?_⟩
      refine ⟨_, rfl, _, rfl, a, h, _, rfl, p6, by omega, by omega, by omega, fun r2 H7 a2 b2 k7 p7 => ?_⟩
      refine ⟨_, rfl, _, rfl, a, wd, _, rfl, p7, by omega, hw1, by omega, fun r3 H8 a3 b3 k8 p8 => ⟨_, _, rfl, rfl, ?_⟩⟩
      refine ⟨(show (2:Nat) ≤ sizeLine from by decide), fun t ht => ?_⟩
      have kt : Kp [] H8 (upd H8 t (.tup [.int r2, .int (1 + r3)])) := Kp.new ht
      have et : (upd H8 t (.tup [.int r2, .int (1 + r3)])) t = some (.tup [.int r2, .int (1 + r3)]) := upd_same
      generalize hG : upd H8 t _ = H9
      have e9 : H9 = upd H8 t (.tup [.int r2, .int (1 + r3)]) := hG.symm
      rw [← e9] at kt et
      have hacc9 := kt.keep _ _ (k8.keep _ _ (k7.keep _ _ hacc6 (by simp [hLa])) (by simp [hLa])) (by simp)
      have hal := tpAll_mlen hT
      refine ⟨L, acc, _, rfl, rfl, hacc9, Nat.lt_trans (show acc.length < 100 by omega) (by decide), ?_⟩
      have kf : Kp [L] H9 (upd H9 L (.lst (acc ++ [.ref t]))) := (Kp.refl _).put (by simp) hacc9 lst_nt
      have k49 : Kp [a] H4 H9 := (((kW.mono (S' := [a]) (by simp)).trans k6).trans (k7.trans k8)).trans (kt.mono (by simp))
      refine ⟨_, _, acc ++ [.ref t], ss ++ [(r2, 1 + r3)], rfl, upd_same, ?_, by rw [List.length_append, hsl]; rfl, ?_, k3.trans ((k49.mono (by simp)).trans (kf.mono (by simp))), ?_⟩
      · rw [List.map_append]
        exact ((hT.kp k49).kp kf).append (.cons (.tup (kf.tup _ _ et) (.cons (.int _) (.cons (.int _) .nil))) .nil)
      · intro s hs
        rcases List.mem_append.mp hs with hs | hs
        · exact hb s hs
        · obtain rfl : s = (r2, 1 + r3) := by simpa using hs
          simp only
          omega
      · exact ((p8.kp kt (by simp)).kp kf (by simp [hLa.symm])).mono (by push_cast; omega)
    · rintro σ H3 ⟨o4, o5, acc, ss, rfl, hacc, hT, hsl, hb, k3, p3⟩
      have hr24 : r.toNat ≤ 24 := by omega
      -- if ships != []
      refine ⟨_, rfl, (show (0:Nat) ≤ sizeLine from by decide), fun W hW => ?_⟩
      have kW : Kp [] H3 (upd H3 W (.lst [])) := Kp.new hW
      have eW : (upd H3 W (.lst [])) W = some (.lst []) := upd_same
      generalize upd H3 W (.lst []) = H4 at kW eW ⊢
      have hacc4 := kW.keep _ _ hacc (by simp)
      have hT4 := hT.kp kW
      have p4 := p3.kp kW (by simp)
      have k4 := k3.trans (kW.mono (S' := [a, L]) (by simp))
      refine ⟨.list (ss.map shD), .list [], .lst (SqL.of hacc4) (TpAll.dp _ _ hT4), .lst (SqL.of eW) .nil, plain_pairs ss, rfl, ?_, _, rfl, ?_⟩
      · have := depth_pairs ss
        show PyData.depthAll (ss.map shD) + 1 ≤ 60
        omega
      rw [eqv_nilP]
      have hd0 : DrawT h most ss := ⟨by omega, fun s hs => by have := hb s hs; omega, fun s hs => (hb s (List.mem_of_mem_tail hs)).2.2.2⟩
      cases hem : ss.isEmpty
      case' true =>
        obtain ⟨H5, hH5, kk⟩ : ∃ H5, H4 = H5 ∧ Kp [a, L] H4 H5 := ⟨_, rfl, Kp.refl _⟩
        have hacc5 : H5 L = some (.lst acc) := by rw [← hH5]; exact hacc4
        have hT5 : TpAll H5 acc (ss.map shD) := by rw [← hH5]; exact hT4
        have p5 : PailAt H5 a (Z + 100) := by rw [← hH5]; exact p4.mono (by omega)
        rw [hH5]
      case' false =>
        refine ⟨_, rfl, a, 6, _, rfl, p4, by omega, by decide, by decide, fun r4 H5 a4 b4 k5 p5 => ⟨rfl, _, rfl, ?_⟩⟩
        by_cases h0 : r4 = 0
        case' neg =>
          have hacc5 := k5.keep _ _ hacc4 (by simp [hLa])
          have hT5 := hT4.kp k5
          have p5 : PailAt H5 a (Z + 100) := p5.mono (by omega)
          have kk : Kp [a, L] H4 H5 := k5.mono (by simp)
          refine iteF' (decide_eq_false (fun z => h0 (by injection z))) ?_
        case' pos =>
          refine iteT' (decide_eq_true (by rw [h0])) ?_
          obtain ⟨s0, sr, rfl⟩ : ∃ s0 sr, ss = s0 :: sr := by
            cases ss with
            | nil => cases hem
            | cons s0 sr => exact ⟨s0, sr, rfl⟩
          have hT5 := hT4.kp k5
          have hacc5 := k5.keep _ _ hacc4 (by simp [hLa])
          rw [List.map_cons] at hT5
          obtain ⟨v0, vr, rfl, ht0, htr⟩ := tpAll_cons hT5
          obtain ⟨c0, rfl, hc0⟩ := tp_ship ht0
          refine ⟨_, rfl, L, _, _, _, rfl, rfl, SqL.of hacc5, atI_nat (j := 0) rfl, c0, _, _, _, rfl, rfl, SqT.of hc0, rfl, ?_⟩
          refine ⟨_, rfl, _, rfl, _, _, rfl, rfl, .inl (by decide), a, _, _, rfl, p5, by omega, by omega, by omega, fun r5 H6 a5 b5 k6 p6 => ⟨_, _, rfl, rfl, ?_⟩⟩
          refine ⟨(show (2:Nat) ≤ sizeLine from by decide), fun t ht => ?_⟩
          have kt : Kp [] H6 (upd H6 t (.tup [.int s0.1, .int (1 + r5)])) := Kp.new ht
          have et : (upd H6 t (.tup [.int s0.1, .int (1 + r5)])) t = some (.tup [.int s0.1, .int (1 + r5)]) := upd_same
          generalize hG : upd H6 t _ = H7
          have e7 : H7 = upd H6 t (.tup [.int s0.1, .int (1 + r5)]) := hG.symm
          rw [← e7] at kt et
          have hacc7 := kt.keep _ _ (k6.keep _ _ hacc5 (by simp [hLa])) (by simp)
          refine ⟨_, rfl, L, _, _, 0, rfl, rfl, hacc7, (show ixN (vr.length + 1) 0 = some 0 by unfold ixN; simp), ?_⟩
          have kf : Kp [L] H7 (upd H7 L (.lst (.ref t :: vr))) := (Kp.refl _).put (by simp) hacc7 lst_nt
          have k57 : Kp [a] H5 H7 := k6.trans (kt.mono (by simp))
          have hT5 : TpAll (upd H7 L (.lst (.ref t :: vr))) (.ref t :: vr) (((s0.1, 1 + r5) :: sr).map shD) := .cons (.tup (kf.tup _ _ et) (.cons (.int _) (.cons (.int _) .nil))) ((htr.kp k57).kp kf)
          have hacc5 : (upd H7 L (.lst (.ref t :: vr))) L = some (.lst (.ref t :: vr)) := upd_same
          have p5 : PailAt (upd H7 L (.lst (.ref t :: vr))) a (Z + 100) := ((p6.kp kt (by simp)).kp kf (by simp [hLa.symm])).mono (by omega)
          have kk : Kp [a, L] H4 (upd H7 L (.lst (.ref t :: vr))) := ((k5.trans k57).mono (by simp)).trans (kf.mono (by simp))
          have hd0 : DrawT h most ((s0.1, 1 + r5) :: sr) := by
            refine ⟨by have := hd0.n; simpa using this, fun s hs => ?_, hd0.tl⟩
            rcases List.mem_cons.mp hs with rfl | hs
            · have := hb s0 (by simp)
              simp only
              omega
            · exact hd0.sh s (List.mem_cons_of_mem _ hs)
      all_goals
        have k9 := hLs (k4.trans kk)
        refine ⟨_, rfl, _, rfl, L, _, rfl, .inl ⟨SqL.of hacc5, fun t ht => ⟨(show (2:Nat) ≤ sizeLine from by decide), fun t2 ht2 => ?_⟩⟩⟩
        refine q _ _ _ hd0 (k9.trans ((Kp.new ht).trans (Kp.new ht2))) ((p5.kp (Kp.new (S := []) ht) (by simp)).kp (Kp.new (S := []) ht2) (by simp)) ?_
        exact .tup upd_same (.cons (.int _) (.cons (.tup (TK.new ht2 _ _ upd_same) ((hT5.new ht).new ht2)) .nil))
end
end Ba

set_option maxHeartbeats 400000
namespace Ba
open PySem PySem.Spec PyProof.Rows L2
/-! ### the law's peak -/
def ltP (a b : Int × Int) : Bool := PySem.W.dataLt (shD a) (shD b)
def pkT (h : Int) (k : Nat) (s : Int × Int) (j : Nat) (o : Int × Int) : Int := (if -((s.1 - o.1 - o.2) / h) > 0 then -((s.1 - o.1 - o.2) / h) else 0) - (if ltP (s.1, (k : Int)) (o.1, (j : Int)) = true then 1 else 0)
def pkK (h : Int) (ss : List (Int × Int)) (k : Nat) (s : Int × Int) : Int := (ss.mapIdx (pkT h k s)).sum
def mx (f x : Int) : Int := if x > f then x else f
def lawPk (h : Int) (ss : List (Int × Int)) : Int := (ss.mapIdx (pkK h ss)).foldl mx 0
theorem take_mapIdx {α β : Type} (f : Nat → α → β) (l : List α) {i : Nat} {x : α} (h : l[i]? = some x) : (l.mapIdx f).take (i + 1) = (l.mapIdx f).take i ++ [f i x] := by
  rw [List.take_add_one, List.getElem?_mapIdx, h]
  rfl
section
variable {P : Program} {w : World} {K : PySem.W.Frag} {mg : Str → Option Value} {base : Heap} {f : Addr} {fd : FuncData}
abbrev spLawPeak : Sp := Pr fun vs H Q _ => ∃ (v : V) (h : Int) (ss : List (Int × Int)), vs = [v] ∧ Tp H v (tbD h ss) ∧ TabOk h ss ∧ ∀ H', Kp [] H H' → Q (.int (lawPk h ss)) H'
theorem ok_law_peak (B : Bi mg) (F : FunS K "_law_peak" "_law_peak" s__law_peak [] [] f fd) (hm : mg "_law_peak" = some (.ref f)) : DefOk P w K mg base "_law_peak" 1 p__law_peak [] spLawPeak := by
  have S := sc__law_peak
  refine defOk F hm S (fun _ _ _ _ _ _ us hl => match us, hl with | [_], _ => rfl) (fun vs H Q E h => ?_) (fun cdv A outer s H vs Q E hr h => ?_)
  · obtain ⟨_, _, _, rfl, _⟩ := h
    rfl
  · obtain ⟨v, h, ss, rfl, ht, ok, q⟩ := h
    refine ⟨_, (pss_cons (ps_asg (pv 0) (pg_tup rfl (pgs_cons (pg_name (i := 1) S.nd rfl (Or.inl rfl)) (pgs_cons (pg_name (i := 2) S.nd rfl (Or.inl rfl)) pgs_nil))))
      (pss_cons (ps_set (i := 3) S.nd rfl (Or.inl rfl) pe_int)
      (pss_cons (ps_for (passes_of rfl) rfl (pi_enumT (by rfl) B.enumerate (pa_cons (pv 2) pa_nil)) (pg_tup rfl (pgs_cons (pg_name (i := 4) S.nd rfl (Or.inl rfl)) (pgs_cons (pg_tup rfl (pgs_cons (pg_name (i := 5) S.nd rfl (Or.inl rfl)) (pgs_cons (pg_name (i := 6) S.nd rfl (Or.inl rfl)) pgs_nil))) pgs_nil)))
      (pss_cons (ps_set (i := 7) S.nd rfl (Or.inl rfl) pe_int)
      (pss_cons (ps_for (passes_of rfl) rfl (pi_enumT (by rfl) B.enumerate (pa_cons (pv 2) pa_nil)) (pg_tup rfl (pgs_cons (pg_name (i := 8) S.nd rfl (Or.inl rfl)) (pgs_cons (pg_tup rfl (pgs_cons (pg_name (i := 9) S.nd rfl (Or.inl rfl)) (pgs_cons (pg_name (i := 10) S.nd rfl (Or.inl rfl)) pgs_nil))) pgs_nil)))
      (pss_one (ps_set (i := 7) S.nd rfl (Or.inl rfl) (pe_op op_sub (pe_op op_add (pv 7) (pe_callB (call_max2 rfl) (by rfl) B.max (by decide +kernel) (pa_cons pe_int (pa_cons (pe_un un_neg (pe_op op_fdiv (pe_op op_sub (pe_op op_sub (pv 5) (pv 9)) (pv 10)) (pv 1))) pa_nil)))) (pe_callTy call_int1 (by rfl) B.int (by decide +kernel) (pa_cons (pe_cmpR (op_gtD hr.units) (pe_tup (pa_cons (pv 9) (pa_cons (pv 8) pa_nil))) (pe_tup (pa_cons (pv 5) (pa_cons (pv 4) pa_nil))) (nomark _)) pa_nil))))))
      (pss_one (ps_set (i := 3) S.nd rfl (Or.inl rfl) (pe_callB (call_max2 rfl) (by rfl) B.max (by decide +kernel) (pa_cons (pv 3) (pa_cons (pv 7) pa_nil))))))))
      (pss_one (ps_ret (pv 3)))))), ?_⟩
    obtain ⟨a, b, xs, rfl, ha, hb, hx⟩ := tp_table ht
    have hl := tpAll_mlen hx
    have hh := ok.h1
    have hh2 := ok.h2
    refine ⟨_, rfl, _, _, rfl, SqT.of ha, rfl, _, _, rfl, _, _, rfl, rfl, ?_⟩
    refine ⟨_, rfl, b, xs, rfl, SqT.of hb, for_it (walk_enumT (K := K) (a := b) (xs := xs)) (fun i σ G => ∃ o4 o5 o6 o7 o8 o9 o10 : Option V, σ = [some (.ref a), some (.int h), some (.ref b), some (.int (((ss.mapIdx (pkK h ss)).take i).foldl mx 0)), o4, o5, o6, o7, o8, o9, o10] ∧ Kp [] H G)
      ⟨none, none, none, none, none, none, none, rfl, Kp.refl _⟩ (fun i σ G _ ⟨_, _, _, _, _, _, _, _, k⟩ => sqT_tk k.tup hb) ?_ ?_⟩
    · rintro i x σ H1 H2 hi ⟨o4, o5, o6, o7, o8, o9, o10, rfl, k1⟩ ⟨T1, x1, y1, rfl, hT1, rfl, e1, e2⟩
      cases e1
      obtain ⟨s, es, ty⟩ := tpAll_at hx e2
      obtain ⟨c, rfl, hc⟩ := tp_ship ty
      have k2 : Kp [] H1 (upd H1 T1 (.tup [.int (i : Nat), .ref c])) := Kp.new hT1
      have hc2 := (k1.trans k2).tup _ _ hc
      refine ⟨T1, _, rfl, SqT.of upd_same, rfl, _, _, rfl, _, _, rfl, ⟨c, _, rfl, SqT.of hc2, rfl, _, _, rfl, _, _, rfl, rfl, ?_⟩⟩
      refine ⟨rfl, ?_⟩
      have k12 := k1.trans k2
      generalize (upd H1 T1 (.tup [.int (i : Nat), .ref c])) = H3 at k12 k2 hc2 ⊢
      refine ⟨_, rfl, b, xs, rfl, sqT_tk k12.tup hb, for_it (walk_enumT (K := K) (a := b) (xs := xs)) (fun j σ G => ∃ o8 o9 o10 : Option V, σ = [some (.ref a), some (.int h), some (.ref b), some (.int (((ss.mapIdx (pkK h ss)).take i).foldl mx 0)), some (.int (i : Nat)), some (.int s.1), some (.int s.2), some (.int (((ss.mapIdx (pkT h i s)).take j).sum)), o8, o9, o10] ∧ Kp [] H G)
        ⟨o8, o9, o10, rfl, k12⟩ (fun i σ G _ ⟨_, _, _, _, k⟩ => sqT_tk k.tup hb) ?_ ?_⟩
      · rintro j x σ H4 H5 hj ⟨o8, o9, o10, rfl, k4⟩ ⟨T2, x2, y2, rfl, hT2, rfl, f1, f2⟩
        cases f1
        obtain ⟨o, eo, ty2⟩ := tpAll_at hx f2
        obtain ⟨c2, rfl, hc3⟩ := tp_ship ty2
        have k5 : Kp [] H4 (upd H4 T2 (.tup [.int (j : Nat), .ref c2])) := Kp.new hT2
        have hc4 := (k4.trans k5).tup _ _ hc3
        refine ⟨T2, _, rfl, SqT.of upd_same, rfl, _, _, rfl, _, _, rfl, ⟨c2, _, rfl, SqT.of hc4, rfl, _, _, rfl, _, _, rfl, rfl, ?_⟩⟩
        refine ⟨rfl, ?_⟩
        refine ⟨_, rfl, _, rfl, _, rfl, _, _, rfl, rfl, _, rfl, _, _, rfl, rfl, _, rfl, _, _, rfl, rfl, ⟨by omega, by omega⟩, _, rfl, _, _, rfl, _, _, rfl, rfl, ?_⟩
        refine ⟨_, rfl, _, rfl, (show (2:Nat) ≤ sizeLine from by decide), fun t ht => ⟨_, rfl, _, rfl, (show (2:Nat) ≤ sizeLine from by decide), fun t2 ht2 => ?_⟩⟩
        refine ⟨shD (o.1, (j : Int)), shD (s.1, (i : Int)), .tup (TK.new ht2 _ _ upd_same) (.cons (.int _) (.cons (.int _) .nil)), .tup upd_same (.cons (.int _) (.cons (.int _) .nil)), shD_alike _ _, (fun z => nomatch z), shD_depth _, .inr ⟨_, rfl, _, _, rfl, rfl, ?_⟩⟩
        have e : ((ss.mapIdx (pkT h i s)).take (j + 1)).sum = ((ss.mapIdx (pkT h i s)).take j).sum + (if -((s.1 - o.1 - o.2) / h) > 0 then -((s.1 - o.1 - o.2) / h) else 0) - (if ltP (s.1, (i : Int)) (o.1, (j : Int)) = true then 1 else 0) := by
          rw [take_mapIdx _ _ eo, List.sum_append, Int.add_sub_assoc]
          simp [pkT]
        have hh : ∃ o8' o9' o10' : Option V, [some (.ref a), some (.int h), some (.ref b), some (.int (((ss.mapIdx (pkK h ss)).take i).foldl mx 0)), some (.int (i : Nat)), some (.int s.1), some (.int s.2), some (.int (((ss.mapIdx (pkT h i s)).take j).sum + (if -((s.1 - o.1 - o.2) / h) > 0 then -((s.1 - o.1 - o.2) / h) else 0) - (if ltP (s.1, (i : Int)) (o.1, (j : Int)) = true then 1 else 0))), some (.int (j : Nat)), some (.int o.1), some (.int o.2)] = [some (.ref a), some (.int h), some (.ref b), some (.int (((ss.mapIdx (pkK h ss)).take i).foldl mx 0)), some (.int (i : Nat)), some (.int s.1), some (.int s.2), some (.int (((ss.mapIdx (pkT h i s)).take (j + 1)).sum)), o8', o9', o10'] := by
          rw [e]; exact ⟨_, _, _, rfl⟩
        obtain ⟨o8', o9', o10', hh⟩ := hh
        exact ⟨o8', o9', o10', hh, (k4.trans k5).trans ((Kp.new ht).trans (Kp.new ht2))⟩
      · rintro σ H4 ⟨o8, o9, o10, rfl, k4⟩
        refine ⟨_, rfl, _, rfl, _, _, rfl, ?_⟩
        have e : (List.take xs.length (ss.mapIdx (pkT h i s))).sum = pkK h ss i s := by
          rw [List.take_of_length_le (by rw [List.length_mapIdx, hl]; exact Nat.le_refl _)]
          rfl
        have e2 : ((ss.mapIdx (pkK h ss)).take (i + 1)).foldl mx 0 = mx (((ss.mapIdx (pkK h ss)).take i).foldl mx 0) (pkK h ss i s) := by
          rw [take_mapIdx _ _ es, List.foldl_append]
          rfl
        have hh : ∃ o4' o5' o6' o7' : Option V, [some (.ref a), some (.int h), some (.ref b), some (.int (mx (((ss.mapIdx (pkK h ss)).take i).foldl mx 0) (List.take xs.length (ss.mapIdx (pkT h i s))).sum)), some (.int (i : Nat)), some (.int s.1), some (.int s.2), some (.int (List.take xs.length (ss.mapIdx (pkT h i s))).sum), o8, o9, o10] = [some (.ref a), some (.int h), some (.ref b), some (.int (((ss.mapIdx (pkK h ss)).take (i + 1)).foldl mx 0)), o4', o5', o6', o7', o8, o9, o10] := by
          rw [e2, e]; exact ⟨_, _, _, _, rfl⟩
        obtain ⟨o4', o5', o6', o7', hh⟩ := hh
        exact ⟨o4', o5', o6', o7', o8, o9, o10, hh, k4⟩
    · rintro σ H4 ⟨o4, o5, o6, o7, o8, o9, o10, rfl, k4⟩
      refine ⟨_, rfl, ?_⟩
      have e : List.take xs.length (ss.mapIdx (pkK h ss)) = ss.mapIdx (pkK h ss) := List.take_of_length_le (by rw [List.length_mapIdx, hl]; exact Nat.le_refl _)
      have q' := q H4 k4
      rw [e]
      exact q'
end
end Ba

set_option maxHeartbeats 400000
namespace Ba
open PySem PySem.Spec PyProof.Rows L2
def DrawP (h : Int) (ss : List (Int × Int)) (pol : Pol) : Prop := ∀ m, pol = .long m → lawPk h ss ≤ m ∧ m ≤ lawPk h ss + 3
structure DrawS (h : Int) (pol : Pol) (bs : List (Int × Int)) : Prop where
  n : bs.length ≤ 200
  s : isStartD h pol (.tuple (bs.map shD)) = true
/-- strangers as a known tuple -/
def StrF (H : Hp) (v : V) (bs : List (Int × Int)) : Prop := ∃ (sa : Addr) (o : Obj) (ps : List Addr), v = .ref sa ∧ H sa = some (.frz o (.tup (ps.map V.ref))) ∧ o.dict = none ∧ TpAll H (ps.map V.ref) (bs.map shD)
theorem StrF.kp {H H' : Hp} {v : V} {bs : List (Int × Int)} {S : List Addr} (s : StrF H v bs) (k : Kp S H H') : StrF H' v bs := by
  obtain ⟨sa, o, ps, e, h1, h2, h3⟩ := s
  exact ⟨sa, o, ps, e, k.frz _ _ _ h1, h2, h3.kp k⟩
theorem StrF.strS {K : PySem.W.Frag} {H : Hp} {v : V} {bs : List (Int × Int)} (s : StrF H v bs) : StrS K H v bs := by
  obtain ⟨sa, o, ps, e, h1, h2, h3⟩ := s
  exact ⟨sa, _, e, .inl (.inr ⟨o, h1⟩), h3⟩
theorem refs_of {H : Hp} : ∀ {xs : List V} {bs : List (Int × Int)}, TpAll H xs (bs.map shD) → ∃ ps : List Addr, xs = ps.map V.ref
  | _, [], h => by cases h; exact ⟨[], rfl⟩
  | _, b :: bs, h => by
    obtain ⟨v, vr, rfl, h1, h2⟩ := tpAll_cons h
    obtain ⟨ps, rfl⟩ := refs_of h2
    obtain ⟨c, rfl, _⟩ := tp_ship h1
    exact ⟨c :: ps, rfl⟩
theorem up_of_pw : ∀ {bs : List (Int × Int)}, (bs.map (·.1)).Pairwise (· < ·) → upB bs = true
  | [], _ => rfl
  | [a], _ => rfl
  | a :: b :: r, h => by
    show (decide (a.1 < b.1) && upB (b :: r)) = true
    rw [List.map_cons, List.map_cons] at h
    have h2 := List.pairwise_cons.mp h
    rw [Bool.and_eq_true, decide_eq_true_iff]
    exact ⟨h2.1 _ (by simp), up_of_pw (bs := b :: r) h2.2⟩
section
variable {P : Program} {w : World} {K : PySem.W.Frag} {mg : Str → Option Value} {base : Heap} {f : Addr} {fd : FuncData}
abbrev spLawPolicy : Sp := Pr fun vs H Q _ => ∃ (a : Addr) (tv : V) (h : Int) (ss : List (Int × Int)) (Z : Int), vs = [.ref a, tv] ∧ PailAt H a Z ∧ Z < 2 ^ 50 ∧ Tp H tv (tbD h ss) ∧ TabOk h ss ∧
  ∀ v pol H', DrawP h ss pol → Kp [a] H H' → PailAt H' a (Z + 2) → Tp H' v (polD pol) → Q v H'
theorem ok_law_policy (D__law_peak : DefOk P w K mg base "_law_peak" 1 p__law_peak [] spLawPeak) (D__law_dip : DefOk P w K mg base "_law_dip" 1 p__law_dip [] spDip) (F : FunS K "_law_policy" "_law_policy" s__law_policy [] [] f fd) (hm : mg "_law_policy" = some (.ref f)) :
    DefOk P w K mg base "_law_policy" 2 p__law_policy [] spLawPolicy := by
  have S := sc__law_policy
  refine defOk F hm S (fun _ _ _ _ _ _ us hl => match us, hl with | [_, _], _ => rfl) (fun vs H Q E h => ?_) (fun cdv A outer s H vs Q E hr h => ?_)
  · obtain ⟨_, _, _, _, _, rfl, _⟩ := h
    rfl
  · obtain ⟨a, tv, h, ss, Z, rfl, hp, hZ, ht, ok, q⟩ := h
    refine ⟨_, (pss_one (ps_ret (pe_ix ix_list (pe_lst (pa_cons pe_str (pa_cons pe_str (pa_cons (pe_tup (pa_cons pe_str (pa_cons (pe_op op_add (pe_fn D__law_peak (hr.mono (by decide)) passLB rfl (pa_cons (pv 1) pa_nil)) (pe_fn D__law_dip (hr.mono (by decide)) passLB rfl (pa_cons (pv 0) (pa_cons pe_int pa_nil)))) pa_nil))) pa_nil)))) (pe_fn D__law_dip (hr.mono (by decide)) passLB rfl (pa_cons (pv 0) (pa_cons pe_int pa_nil))) (fun _ _ => rfl)))), ?_⟩
    refine ⟨_, rfl, tv, h, ss, rfl, ht, ok, fun H1 k1 => ?_⟩
    refine ⟨_, rfl, a, 4, Z, rfl, hp.kp k1 (by simp), by omega, by decide, by decide, fun r1 H2 a1 b1 k2 p2 => ⟨_, _, rfl, rfl, ?_⟩⟩
    refine ⟨(show (2:Nat) ≤ sizeLine from by decide), fun t ht2 => ?_⟩
    refine ⟨(show (3:Nat) ≤ sizeLine from by decide), fun L hL => ?_⟩
    have kL : Kp [] H2 (upd (upd H2 t (.tup [.str "long", .int (lawPk h ss + r1)])) L (.lst [.str "least", .str "last", .ref t])) := (Kp.new ht2).trans (Kp.new hL)
    have eL : (upd (upd H2 t (.tup [.str "long", .int (lawPk h ss + r1)])) L (.lst [.str "least", .str "last", .ref t])) L = some (.lst [.str "least", .str "last", .ref t]) := upd_same
    have tL : Tp (upd (upd H2 t (.tup [.str "long", .int (lawPk h ss + r1)])) L (.lst [.str "least", .str "last", .ref t])) (.ref t) (polD (.long (lawPk h ss + r1))) := .tup ((TK.new hL) _ _ upd_same) (.cons (.str _) (.cons (.int _) .nil))
    have hLa : L ≠ a := (p2.kp (Kp.new (S := []) ht2) (by simp)).ne hL
    generalize hG : upd (upd H2 t _) L _ = H3
    have e3 : H3 = upd (upd H2 t (.tup [.str "long", .int (lawPk h ss + r1)])) L (.lst [.str "least", .str "last", .ref t]) := hG.symm
    rw [← e3] at kL eL tL
    refine ⟨_, rfl, a, 3, _, rfl, p2.kp kL (by simp), by omega, by decide, by decide, fun r3 H4 a3 b3 k4 p4 => ?_⟩
    have eL4 := k4.keep _ _ eL (by simp [hLa])
    have kk : Kp [a] H H4 := ((k1.mono (by simp)).trans k2).trans ((kL.mono (by simp)).trans k4)
    have h3 : r3 = 0 ∨ r3 = 1 ∨ r3 = 2 := by omega
    have p4' := p4.mono (show Z + 1 + 1 ≤ Z + 2 by omega)
    rcases h3 with rfl | rfl | rfl
    · exact ⟨L, _, _, _, rfl, rfl, SqL.of eL4, rfl, q _ .least H4 (fun m z => nomatch z) kk p4' (.str _)⟩
    · exact ⟨L, _, _, _, rfl, rfl, SqL.of eL4, rfl, q _ .last H4 (fun m z => nomatch z) kk p4' (.str _)⟩
    · exact ⟨L, _, _, _, rfl, rfl, SqL.of eL4, rfl, q _ (.long (lawPk h ss + r1)) H4 (fun m z => by injection z with z; omega) kk p4' (tL.kp k4)⟩
abbrev spLawStart : Sp := Pr fun vs H Q _ => ∃ (a : Addr) (tv pw : V) (h : Int) (ss : List (Int × Int)) (pol : Pol) (Z : Int), vs = [.ref a, tv, pw] ∧ PailAt H a Z ∧ Z < 2 ^ 50 ∧ Tp H tv (tbD h ss) ∧ TabOk h ss ∧ Tp H pw (polD pol) ∧
  ∀ v bs H', DrawS h pol bs → Kp [a] H H' → PailAt H' a (Z + 1000) → StrF H' v bs → Q v H'
theorem ok_law_start (B : Bi mg) (D__law_dip : DefOk P w K mg base "_law_dip" 1 p__law_dip [] spDip) (F : FunS K "_law_start" "_law_start" s__law_start [] [] f fd) (hm : mg "_law_start" = some (.ref f)) :
    DefOk P w K mg base "_law_start" 2 p__law_start [] spLawStart := by
  have S := sc__law_start
  refine defOk F hm S (fun _ _ _ _ _ _ us hl => match us, hl with | [_, _, _], _ => rfl) (fun vs H Q E h => ?_) (fun cdv A outer s H vs Q E hr h => ?_)
  · obtain ⟨_, _, _, _, _, _, _, rfl, _⟩ := h
    rfl
  · obtain ⟨a, tv, pw, h, ss, pol, Z, rfl, hp, hZ, ht, ok, hpol, q⟩ := h
    refine ⟨_, (pss_cons (ps_set (i := 3) S.nd rfl (Or.inl rfl) (pe_lst pa_nil))
      (pss_cons (ps_set (i := 4) S.nd rfl (Or.inl rfl) (pe_ix ix_list (pe_lst (pa_cons pe_int (pa_cons pe_int (pa_cons pe_int (pa_cons pe_int pa_nil))))) (pe_fn D__law_dip (hr.mono (by decide)) passLB rfl (pa_cons (pv 0) (pa_cons pe_int pa_nil))) (fun _ _ => rfl)))
      (pss_cons (ps_for (passes_of rfl) rfl (pi_range2 (by rfl) B.range (pa_cons pe_int (pa_cons (pe_op op_add (pv 4) pe_int) pa_nil))) (pg_name (i := 5) S.nd rfl (Or.inl rfl))
      (pss_one (ps_if (pt_cmpR op_eq (pe_fn D__law_dip (hr.mono (by decide)) passLB rfl (pa_cons (pv 0) (pa_cons (pe_ix ix_list (pe_lst (pa_cons pe_int (pa_cons pe_int pa_nil))) (pe_callTy call_int1 (by rfl) B.int (by decide +kernel) (pa_cons (pe_cmpR op_gt (pv 4) pe_int (nomark _)) pa_nil)) (fun _ _ => rfl)) pa_nil))) pe_int (nomark _)) (pss_one (ps_expr (pe_bm PySem.F.plainAttrs_list PySem.F.slot_list_append PySem.F.type_list_append mt_append (pv 3) (pa_cons (pe_tup (pa_cons (pv 5) (pa_cons (pe_fn D__law_dip (hr.mono (by decide)) passLB rfl (pa_cons (pv 0) (pa_cons (pe_ix ix_list (pe_lst (pa_cons pe_int (pa_cons (pe_op op_add (pe_ix ix_tup (pv 1) pe_int (fun _ _ => rfl)) pe_int) (pa_cons (pe_op op_add (pe_op op_mul pe_int (pe_ix ix_tup (pv 1) pe_int (fun _ _ => rfl))) pe_int) pa_nil)))) (pe_fn D__law_dip (hr.mono (by decide)) passLB rfl (pa_cons (pv 0) (pa_cons pe_int pa_nil))) (fun _ _ => rfl)) pa_nil))) pa_nil))) pa_nil)))) pss_nil)))
      (pss_one (ps_ret (pe_ifExp (pt_cmpR (op_inP hr.units) (pv 2) (pe_tup (pa_cons pe_str (pa_cons pe_str pa_nil))) (by with_unfolding_all rfl)) (pe_callTy call_tupleF (by rfl) B.tuple (by decide +kernel) (pa_cons (pv 3) pa_nil)) (pe_tupF pa_nil))))))), ?_⟩
    have hh1 := ok.h1
    have hh2 := ok.h2
    obtain ⟨ta, tb, xs, rfl, hta, htb, hx⟩ := tp_table ht
    refine ⟨(show (0:Nat) ≤ sizeLine from by decide), fun L hL => ?_⟩
    have kL : Kp [] H (upd H L (.lst [])) := Kp.new hL
    have eL : (upd H L (.lst [])) L = some (.lst []) := upd_same
    have hLa : L ≠ a := hp.ne hL
    generalize upd H L (.lst []) = H1 at kL eL ⊢
    refine ⟨(show (4:Nat) ≤ sizeLine from by decide), fun W hW => ?_⟩
    have kW : Kp [] H1 (upd H1 W (.lst [.int 0, .int 4, .int 12, .int 200])) := Kp.new hW
    have eW : (upd H1 W (.lst [.int 0, .int 4, .int 12, .int 200])) W = some (.lst [.int 0, .int 4, .int 12, .int 200]) := upd_same
    have p1 := hp.kp kL (by simp)
    have hWa : W ≠ a := p1.ne hW
    generalize upd H1 W (.lst [.int 0, .int 4, .int 12, .int 200]) = H2 at kW eW ⊢
    refine ⟨_, rfl, a, 4, Z, rfl, p1.kp kW (by simp), by omega, by decide, by decide, fun r H3 r0 r1 k3 p3 => ?_⟩
    obtain ⟨mo, hm0, hm2, hat⟩ : ∃ mo : Int, 0 ≤ mo ∧ mo ≤ 200 ∧ atI [V.int 0, V.int 4, V.int 12, V.int 200] r = some (V.int mo) := by
      have : r = 0 ∨ r = 1 ∨ r = 2 ∨ r = 3 := by omega
      rcases this with rfl | rfl | rfl | rfl
      · exact ⟨0, by omega, by omega, rfl⟩
      · exact ⟨4, by omega, by omega, rfl⟩
      · exact ⟨12, by omega, by omega, rfl⟩
      · exact ⟨200, by omega, by omega, rfl⟩
    have eL3 := k3.keep _ _ (kW.keep _ _ eL (by simp)) (by simp [hLa])
    have k03 : Kp [a] H H3 := ((kL.trans kW).mono (by simp)).trans k3
    refine ⟨W, _, _, _, rfl, rfl, SqL.of (k3.keep _ _ eW (by simp [hWa])), hat, ?_⟩
    refine ⟨_, rfl, _, _, rfl, rfl, 1, _, rfl, ⟨by omega, by omega, by omega, by omega⟩, ?_⟩
    have hn : (mo + 1 - 1).toNat = mo.toNat := by congr 1; omega
    refine for_it (walk_range (lo := 1) (n := (mo + 1 - 1).toNat)) (fun i σ G => ∃ (o5 : Option V) (acc : List V) (bs : List (Int × Int)), σ = [some (.ref a), some (.ref ta), some pw, some (.ref L), some (.int mo), o5] ∧ G L = some (.lst acc) ∧ TpAll G acc (bs.map shD) ∧ bs.length ≤ i ∧ (∀ b ∈ bs, 1 ≤ b.1 ∧ b.1 ≤ i ∧ 0 ≤ b.2 ∧ b.2 ≤ 10 * h) ∧ (bs.map (·.1)).Pairwise (· < ·) ∧ Kp [a, L] H3 G ∧ PailAt G a (Z + 1 + 3 * i))
      ⟨none, [], [], rfl, eL3, .nil, by simp, by simp, by simp, Kp.refl _, by simpa using p3⟩ (fun _ _ _ _ _ => trivial) ?_ ?_
    · rintro i x σ H4 H5 hi ⟨o5, acc, bs, rfl, hacc, hT, hbl, hb, hpw, k4, p4⟩ ⟨rfl, rfl⟩
      rw [hn] at hi
      have hi2 : (i : Int) < 200 := by omega
      refine ⟨_, rfl, (show (2:Nat) ≤ sizeLine from by decide), fun W1 hW1 => ?_⟩
      have kW1 : Kp [] H5 (upd H5 W1 (.lst [.int 2, .int 20])) := Kp.new hW1
      have eW1 : (upd H5 W1 (.lst [.int 2, .int 20])) W1 = some (.lst [.int 2, .int 20]) := upd_same
      have hW1a : W1 ≠ a := p4.ne hW1
      generalize upd H5 W1 (.lst [.int 2, .int 20]) = H6 at kW1 eW1 ⊢
      obtain ⟨mn, mn1, mn2, hat2⟩ : ∃ mn : Int, 1 ≤ mn ∧ mn ≤ 20 ∧ atI [V.int 2, V.int 20] (if (decide (12 < mo)) = true then 1 else 0) = some (V.int mn) := by
        by_cases h12 : 12 < mo
        · rw [decide_eq_true h12]; exact ⟨20, by omega, by omega, rfl⟩
        · rw [decide_eq_false h12]; exact ⟨2, by omega, by omega, rfl⟩
      refine ⟨_, rfl, _, _, rfl, rfl, .inr ⟨_, rfl, W1, _, _, _, rfl, rfl, SqL.of eW1, hat2, a, mn, _, rfl, p4.kp kW1 (by simp), by omega, mn1, by omega, fun r1 H7 a1 b1 k7 p7 => ⟨rfl, _, rfl, ?_⟩⟩⟩
      have hacc7 := k7.keep _ _ (kW1.keep _ _ hacc (by simp)) (by simp [hLa])
      have k57 : Kp [a] H5 H7 := (kW1.mono (by simp)).trans k7
      by_cases h0 : r1 = 0
      · refine iteT' (decide_eq_true (by rw [h0])) ?_
        have hta7 := k57.tup _ _ (k4.tup _ _ (k03.tup _ _ hta))
        refine ⟨_, rfl, .inl ⟨rfl, _, SqL.of hacc7⟩, _, rfl, _, rfl, _, rfl, ta, _, _, _, rfl, rfl, SqT.of hta7, rfl, _, _, rfl, rfl, _, rfl, ta, _, _, _, rfl, rfl, SqT.of hta7, rfl, _, _, rfl, rfl, .inl (by decide), _, _, rfl, rfl, (show (3:Nat) ≤ sizeLine from by decide), fun W2 hW2 => ?_⟩
        have kW2 : Kp [] H7 (upd H7 W2 (.lst [.int 2, .int (h + 1), .int (10 * h + 1)])) := Kp.new hW2
        have eW2 : (upd H7 W2 (.lst [.int 2, .int (h + 1), .int (10 * h + 1)])) W2 = some (.lst [.int 2, .int (h + 1), .int (10 * h + 1)]) := upd_same
        have hW2a : W2 ≠ a := p7.ne hW2
        generalize hG : upd H7 W2 _ = H8
        have e8 : H8 = upd H7 W2 (.lst [.int 2, .int (h + 1), .int (10 * h + 1)]) := hG.symm
        rw [← e8] at kW2 eW2
        refine ⟨_, rfl, a, 3, _, rfl, p7.kp kW2 (by simp), by omega, by decide, by decide, fun r2 H9 a2 b2 k9 p9 => ?_⟩
        obtain ⟨m3, m31, m32, hat3⟩ : ∃ m3 : Int, 1 ≤ m3 ∧ m3 ≤ 10 * h + 1 ∧ atI [V.int 2, V.int (h + 1), V.int (10 * h + 1)] r2 = some (V.int m3) := by
          have : r2 = 0 ∨ r2 = 1 ∨ r2 = 2 := by omega
          rcases this with rfl | rfl | rfl
          · exact ⟨2, by omega, by omega, rfl⟩
          · exact ⟨h + 1, by omega, by omega, rfl⟩
          · exact ⟨10 * h + 1, by omega, by omega, rfl⟩
        refine ⟨W2, _, _, _, rfl, rfl, SqL.of (k9.keep _ _ eW2 (by simp [hW2a])), hat3, a, m3, _, rfl, p9, by omega, m31, by omega, fun r3 H10 a3 b3 k10 p10 => ⟨(show (2:Nat) ≤ sizeLine from by decide), fun t ht => ?_⟩⟩
        have kt : Kp [] H10 (upd H10 t (.tup [.int (1 + i), .int r3])) := Kp.new ht
        have et : (upd H10 t (.tup [.int (1 + i), .int r3])) t = some (.tup [.int (1 + i), .int r3]) := upd_same
        generalize hG : upd H10 t _ = H11
        have e11 : H11 = upd H10 t (.tup [.int (1 + i), .int r3]) := hG.symm
        rw [← e11] at kt et
        have k710 : Kp [a] H7 H10 := ((kW2.mono (by simp)).trans k9).trans k10
        have hacc11 := kt.keep _ _ (k710.keep _ _ hacc7 (by simp [hLa])) (by simp)
        have hal := tpAll_mlen hT
        refine ⟨L, acc, _, rfl, rfl, hacc11, Nat.lt_trans (show acc.length < 300 by omega) (by decide), ?_⟩
        have kf : Kp [L] H11 (upd H11 L (.lst (acc ++ [.ref t]))) := (Kp.refl _).put (by simp) hacc11 lst_nt
        have k511 : Kp [a] H5 H11 := (k57.trans k710).trans (kt.mono (by simp))
        refine ⟨_, acc ++ [.ref t], bs ++ [(1 + (i : Int), r3)], rfl, upd_same, ?_, by rw [List.length_append]; show bs.length + 1 ≤ i + 1; omega, ?_, ?_, k4.trans ((k511.mono (by simp)).trans (kf.mono (by simp))), ?_⟩
        · rw [List.map_append]
          exact ((hT.kp k511).kp kf).append (.cons (.tup (kf.tup _ _ et) (.cons (.int _) (.cons (.int _) .nil))) .nil)
        · intro s hs
          rcases List.mem_append.mp hs with hs | hs
          · have := hb s hs
            push_cast
            omega
          · obtain rfl : s = (1 + (i : Int), r3) := by simpa using hs
            simp only
            push_cast
            omega
        · rw [List.map_append, List.pairwise_append]
          refine ⟨hpw, by simp, fun x hx y hy => ?_⟩
          obtain ⟨b, hb2, rfl⟩ := List.mem_map.mp hx
          have hy : y = 1 + (i : Int) := by simpa using hy
          have := hb b hb2
          omega
        · exact ((p10.kp kt (by simp)).kp kf (by simp [hLa.symm])).mono (by push_cast; omega)
      · refine iteF' (decide_eq_false (fun z => h0 (by injection z))) ?_
        exact ⟨_, acc, bs, rfl, hacc7, hT.kp k57, by omega, fun b hb2 => by have := hb b hb2; push_cast; omega, hpw, k4.trans (k57.mono (by simp)), p7.mono (by push_cast; omega)⟩
    · rintro σ H4 ⟨o5, acc, bs, rfl, hacc, hT, hbl, hb, hpw, k4, p4⟩
      rw [hn] at hbl hb p4
      have hmo : mo.toNat ≤ 200 := by omega
      have hall : (bs.map shD).all (isStrangerD h) = true := by
        rw [List.all_map, List.all_eq_true]
        intro b hb2
        have := hb b hb2
        show (inRangeD 1 200 (.int b.1) && inRangeD 0 (10 * h) (.int b.2)) = true
        simp only [inRangeD, Bool.and_eq_true, decide_eq_true_eq]
        omega
      have hup : upB ((bs.map shD).map shOf) = true := by
        rw [List.map_map, shOf_shD, List.map_id]
        exact up_of_pw hpw
      have k04 : Kp [a] H H4 := ((k03.mono (S' := [a, L]) (by simp)).trans k4).less (fun b hb => by
        have hb : b = a ∨ b = L := by simpa using hb
        rcases hb with z | z
        · exact .inl (by simp [z])
        · exact .inr (by rw [z]; exact hL))
      refine ⟨_, rfl, (show (2:Nat) ≤ sizeLine from by decide), fun p5 hp5 => ?_⟩
      have k5 : Kp [] H4 (upd H4 p5 (.tup [.str "least", .str "last"])) := Kp.new hp5
      have h5 := dp_strs (K := K) (xs := ["least", "last"]) (SqT.of (K := K) (H := upd H4 p5 (.tup [.str "least", .str "last"])) upd_same)
      generalize upd H4 p5 (.tup [.str "least", .str "last"]) = H5 at k5 h5 ⊢
      have k05 := k04.trans (k5.mono (S' := [a]) (by simp))
      refine ⟨polD pol, [.str "least", .str "last"], Tp.dp _ _ (hpol.kp k05), h5, polD_plain pol, rfl, polD_depth pol, _, rfl, ?_⟩
      have hacc5 := k5.keep _ _ hacc (by simp)
      have p5' := (p4.kp k5 (by simp)).mono (show Z + 1 + 3 * (mo.toNat : Int) ≤ Z + 1000 by omega)
      cases pol with
      | least =>
        obtain ⟨ps, rfl⟩ := refs_of hT
        refine ⟨_, rfl, L, _, rfl, SqL.of hacc5, fun t o ht ho _ => ?_⟩
        exact q _ bs _ ⟨by omega, by show (_ && (_ && _)) = true; rw [hall, hup]; rfl⟩ (k05.trans (Kp.new ht)) (p5'.kp (Kp.new (S := []) ht) (by simp)) ⟨t, o, ps, rfl, upd_same, ho, (hT.kp k5).new ht⟩
      | last =>
        obtain ⟨ps, rfl⟩ := refs_of hT
        refine ⟨_, rfl, L, _, rfl, SqL.of hacc5, fun t o ht ho _ => ?_⟩
        exact q _ bs _ ⟨by omega, by show (_ && (_ && _)) = true; rw [hall, hup]; rfl⟩ (k05.trans (Kp.new ht)) (p5'.kp (Kp.new (S := []) ht) (by simp)) ⟨t, o, ps, rfl, upd_same, ho, (hT.kp k5).new ht⟩
      | long m =>
        refine ⟨(show (0:Nat) ≤ sizeLine from by decide), fun t o ht ho _ => ?_⟩
        exact q _ [] _ ⟨by simp, rfl⟩ (k05.trans (Kp.new ht)) (p5'.kp (Kp.new (S := []) ht) (by simp)) ⟨t, o, [], rfl, upd_same, ho, .nil⟩
end
end Ba

set_option maxHeartbeats 400000
namespace Ba
open PySem PySem.Spec PyProof.Rows L2
/-! ### the law's docks -/
structure LA where
  d : Addr
  hd : Addr
  fd : Addr
  ud : Addr
def LA.foot (l : LA) : List Addr := [l.d, l.hd, l.fd, l.ud]
def ldF (pv : V) (l : LA) (day : Int) : List (Key × V) := [(.inr "policy", pv), (.inr "held", .ref l.hd), (.inr "free", .ref l.fd), (.inr "used", .ref l.ud), (.inr "day", .int day)]
structure LDAt (N : Nat) (H : Hp) (l : LA) (D : Dk) : Prop where
  ex : ∃ pv skvs ukvs, ∃ fl : List Int, H l.d = some (.dK (ldF pv l D.day)) ∧ Tp H pv (polD D.pol) ∧ H l.hd = some (.dK skvs) ∧ DvAt H (·.1) stD skvs D.stays ∧ H l.fd = some (.lst (fl.map V.int)) ∧ (D.pol.isLeast = false → fl = D.vac) ∧
    fl.length + D.stays.length ≤ N ∧ H l.ud = some (.dK ukvs) ∧ KeysAt ukvs D.used
  n1 : l.hd ≠ l.ud
  n2 : l.d ≠ l.hd
  n3 : l.d ≠ l.ud
theorem LDAt.kp {N : Nat} {H H' : Hp} {a : LA} {D : Dk} {S : List Addr} (d : LDAt N H a D) (k : Kp S H H') (n : ∀ x ∈ a.foot, x ∉ S) : LDAt N H' a D := by
  obtain ⟨⟨pv, skvs, ukvs, fl, h1, h2, h3, h4, h5, h6, h7, h8, h9⟩, n1, n2, n3⟩ := d
  exact ⟨⟨pv, skvs, ukvs, fl, k.keep _ _ h1 (n _ (by simp [LA.foot])), h2.kp k, k.keep _ _ h3 (n _ (by simp [LA.foot])), h4.tk k.tup, k.keep _ _ h5 (n _ (by simp [LA.foot])), h6, h7, k.keep _ _ h8 (n _ (by simp [LA.foot])), h9⟩, n1, n2, n3⟩
theorem LDAt.live {N : Nat} {H : Hp} {a : LA} {D : Dk} (d : LDAt N H a D) : ∀ x ∈ a.foot, H x ≠ none := by
  obtain ⟨⟨pv, skvs, ukvs, fl, h1, h2, h3, h4, h5, h6, h7, h8, h9⟩, n1, n2, n3⟩ := d
  intro x hx
  have hx : x = a.d ∨ x = a.hd ∨ x = a.fd ∨ x = a.ud := by simpa [LA.foot] using hx
  rcases hx with rfl | rfl | rfl | rfl
  · rw [h1]; simp
  · rw [h3]; simp
  · rw [h5]; simp
  · rw [h8]; simp
theorem LDAt.mono {N M : Nat} {H : Hp} {a : LA} {D : Dk} (d : LDAt N H a D) (h : N ≤ M) : LDAt M H a D := by
  obtain ⟨⟨pv, skvs, ukvs, fl, h1, h2, h3, h4, h5, h6, h7, h8, h9⟩, n1, n2, n3⟩ := d
  exact ⟨⟨pv, skvs, ukvs, fl, h1, h2, h3, h4, h5, h6, Nat.le_trans h7 h, h8, h9⟩, n1, n2, n3⟩
theorem LDAt.tab {N : Nat} {H : Hp} {a : LA} {D : Dk} (d : LDAt N H a D) (h : Int) (ss : List (Int × Int)) : LDAt N H a { D with h := h, ss := ss } := ⟨d.ex, d.n1, d.n2, d.n3⟩
theorem ld_policy {H : Hp} {pv : V} {l : LA} {day : Int} (h : H l.d = some (.dK (ldF pv l day))) : DGet H l.d (.str "policy") (some pv) := DGet.k (k := .inr "policy") h
theorem ld_held {H : Hp} {pv : V} {l : LA} {day : Int} (h : H l.d = some (.dK (ldF pv l day))) : DGet H l.d (.str "held") (some (.ref l.hd)) := DGet.k (k := .inr "held") h
theorem ld_free {H : Hp} {pv : V} {l : LA} {day : Int} (h : H l.d = some (.dK (ldF pv l day))) : DGet H l.d (.str "free") (some (.ref l.fd)) := DGet.k (k := .inr "free") h
theorem ld_used {H : Hp} {pv : V} {l : LA} {day : Int} (h : H l.d = some (.dK (ldF pv l day))) : DGet H l.d (.str "used") (some (.ref l.ud)) := DGet.k (k := .inr "used") h
theorem ld_day {H : Hp} {pv : V} {l : LA} {day : Int} (h : H l.d = some (.dK (ldF pv l day))) : DGet H l.d (.str "day") (some (.int day)) := DGet.k (k := .inr "day") h
theorem ld_putday {H : Hp} {pv : V} {l : LA} {day : Int} (h : H l.d = some (.dK (ldF pv l day))) (d2 : Int) : DPut H l.d (.str "day") (.int d2) (upd H l.d (.dK (ldF pv l d2))) := DPut.k (kvs := ldF pv l day) (k := .inr "day") h (show (5:Nat) < sizeLine from by decide)
theorem mergeK_nd {α : Type} {H : Hp} {key : α → Int} {enc : α → PyData} : ∀ {kvs : List (Key × V)} {ss : List α} {acc : List (Key × V)} {ts : List α}, DvAt H key enc acc ts → DvAt H key enc kvs ss → ((ts ++ ss).map key).Nodup → DvAt H key enc (mergeK acc kvs) (ts ++ ss)
  | _, _, _, _, a, .nil, _ => by simpa [mergeK] using a
  | _, _, acc, ts, a, .cons (s := s) (kvs := kvs) (ss := ss) h t, nd => by
    have e : (ts.any fun x => decide (key x = key s)) = false := by
      rw [List.any_eq_false]
      intro x hx e
      rw [List.map_append, List.nodup_append] at nd
      exact nd.2.2 (key x) (List.mem_map.mpr ⟨x, hx, rfl⟩) (key s) (by simp) (of_decide_eq_true e)
    have := mergeK_nd (a.put (s := s) e h) t (by rw [List.append_assoc]; exact nd)
    rw [List.append_assoc] at this
    exact this
theorem mergeK_keys : ∀ {kvs : List (Key × V)} {ns : List Int} {acc : List (Key × V)} {ms : List Int}, KeysAt acc ms → KeysAt kvs ns → (ms ++ ns).Nodup → KeysAt (mergeK acc kvs) (ms ++ ns)
  | [], [], _, _, a, _, _ => by simpa [mergeK] using a
  | [], _ :: _, _, _, _, b, _ => by have := b.eq; simp at this
  | _ :: _, [], _, _, _, b, _ => by have := b.eq; simp at this
  | (k, v) :: kvs, n :: ns, acc, ms, a, b, nd => by
    have hb := b.eq
    rw [List.map_cons, List.map_cons] at hb
    injection hb with hb1 hb2
    have hb1 : k = Sum.inl n := hb1
    subst hb1
    have e : putN ms n = ms ++ [n] := by
      unfold putN
      rw [if_neg]
      rw [List.any_eq_true]
      rintro ⟨x, hx, e⟩
      rw [List.nodup_append] at nd
      exact nd.2.2 x hx n (by simp) (of_decide_eq_true e)
    have h1 := a.put n v
    rw [e] at h1
    have := mergeK_keys h1 ⟨hb2⟩ (by rw [List.append_assoc]; exact nd)
    rw [List.append_assoc] at this
    exact this
def LA.fresh (l : LA) (H : Hp) : Prop := ∀ x ∈ l.foot, H x = none
section
variable {P : Program} {w : World} {K : PySem.W.Frag} {mg : Str → Option Value} {base : Heap} {f : Addr} {fd : FuncData}
theorem paired_str {H : Hp} : ∀ {ps : List Addr} {bs : List (Int × Int)}, TpAll H (ps.map V.ref) (bs.map shD) → Paired (fun p (kv : Key × V) => SqT K H p [kV kv.1, kv.2]) ps (bs.map fun b => ((.inl b.1 : Key), V.int b.2))
  | [], [], _ => .nil
  | [], _ :: _, h => by cases h
  | _ :: _, [], h => by cases h
  | p :: ps, b :: bs, h => by
    obtain ⟨v, vr, e, h1, h2⟩ := tpAll_cons h
    rw [List.map_cons] at e
    injection e with e1 e2
    subst e1 e2
    obtain ⟨c, e3, hc⟩ := tp_ship h1
    injection e3 with e3
    subst e3
    exact .cons (SqT.of hc) (paired_str h2)
def hpD (b : Int × Int) : PyData := .tuple [.int b.1, .tuple [.int b.2, .tuple [.int (-1), .int b.1]]]
theorem paired_held {H : Hp} : ∀ {xs : List V} {bs : List (Int × Int)}, TpAll H xs (bs.map hpD) → ∃ (ps : List Addr) (kvs : List (Key × V)), xs = ps.map V.ref ∧ Paired (fun p (kv : Key × V) => SqT K H p [kV kv.1, kv.2]) ps kvs ∧ DvAt H (·.1) stD kvs (bs.map st0)
  | _, [], h => by cases h; exact ⟨[], [], rfl, .nil, .nil⟩
  | _, b :: bs, h => by
    obtain ⟨v, vr, rfl, h1, h2⟩ := tpAll_cons h
    obtain ⟨ps, kvs, rfl, h3, h4⟩ := paired_held h2
    obtain ⟨c, v1, v2, rfl, hc, t1, t2⟩ := tp_pair h1
    rw [tp_int t1] at hc
    exact ⟨c :: ps, (.inl b.1, v2) :: kvs, rfl, .cons (SqT.of hc) h3, .cons (s := st0 b) t2 h4⟩
abbrev spLawDock : Sp := Pr fun vs H Q _ => ∃ (pw sv : V) (pol : Pol) (bs : List (Int × Int)), vs = [pw, sv] ∧ Tp H pw (polD pol) ∧ PolOk pol ∧ StrF H sv bs ∧ (bs.map (·.1)).Nodup ∧ bs.length ≤ 1000 ∧
  ∀ l H', LA.fresh l H → Kp [] H H' → LDAt 2000 H' l (dk0 0 [] pol bs) → Q (.ref l.d) H'
theorem ok_law_dock (B : Bi mg) (F : FunS K "_law_dock" "_law_dock" s__law_dock [] [] f fd) (hm : mg "_law_dock" = some (.ref f)) : DefOk P w K mg base "_law_dock" 1 p__law_dock [] spLawDock := by
  have S := sc__law_dock
  refine defOk F hm S (fun _ _ _ _ _ _ us hl => match us, hl with | [_, _], _ => rfl) (fun vs H Q E h => ?_) (fun cdv A outer s H vs Q E hr h => ?_)
  · obtain ⟨_, _, _, _, rfl, _⟩ := h
    rfl
  · obtain ⟨pw, sv, pol, bs, rfl, hpol, hpo, hs, nd, hn, q⟩ := h
    refine ⟨_, (pss_cons (ps_set (i := 2) S.nd rfl (Or.inl rfl) (pe_ifExp (pt_val (pe_callB call_isA (by rfl) B.isinstance (by decide +kernel) (pa_cons (pv 0) (pa_cons (pe_bltn (v := .ty "tuple") (by rfl) B.tuple (by decide +kernel) rfl) pa_nil)))) (pe_listRg rfl (by rfl) B.list (prg_2 (by rfl) B.range pe_int (pe_op op_add (pe_ix ix_tup (pv 0) pe_int (fun _ _ => rfl)) pe_int))) (pe_lst pa_nil)))
      (pss_cons (ps_set (i := 3) S.nd rfl (Or.inl rfl) (pe_callTy (call_dictP rfl) (by rfl) B.dict (by decide +kernel) (pa_cons (pe_lc (own := [("_law_berth", 4), ("_law_until", 5)]) (g := (gTup K 2 (gCons (gName 4) (gCons (gName 5) gNil)))) (tt := tYes) (by rfl) S.nd (pi_tup (pv 1)) (blkOk_by (own := [("_law_berth", 4), ("_law_until", 5)]) (N := n__law_dock) (sc := defScope s__law_dock) (by decide +kernel)) (fun _ _ _ _ _ => (pg_tup rfl (pgs_cons (pg_name (i := 4) S.nd rfl (Or.inl rfl)) (pgs_cons (pg_name (i := 5) S.nd rfl (Or.inl rfl)) pgs_nil)))) (fun _ _ _ _ _ => pts_nil) (fun _ _ _ _ _ => (pe_tup (pa_cons (pv 4) (pa_cons (pe_tup (pa_cons (pv 5) (pa_cons (pe_tup (pa_cons (pe_un un_neg pe_int) (pa_cons (pv 4) pa_nil))) pa_nil))) pa_nil))))) pa_nil)))
      (pss_one (ps_ret (pe_disp (pps_cons pe_str (pv 0) (pps_cons pe_str (pv 3) (pps_cons pe_str (pv 2) (pps_cons pe_str (pe_callTy (call_dictT rfl) (by rfl) B.dict (by decide +kernel) (pa_cons (pv 1) pa_nil)) (pps_cons pe_str pe_int pps_nil))))) (by rfl) (by rfl) (fun z => by cases z) (by decide)))))), ?_⟩
    -- the free berths
    have free : ∀ (X : Prop), True := fun _ => trivial
    cases pol
    case' least =>
      refine ⟨_, rfl, pw, "str", "tuple", false, rfl, by rw [tp_str hpol]; exact .base (.str _), by decide +kernel, _, rfl, ?_⟩
      refine ⟨(show (0:Nat) ≤ sizeLine from by decide), fun fl hfl => ?_⟩
      have k1 : Kp [] H (upd H fl (.lst [])) := Kp.new hfl
      have e1 : (upd H fl (.lst [])) fl = some (.lst ((vac0 .least).map V.int)) := upd_same
      have vl : (vac0 .least).length ≤ 200 := by simp [vac0]
      generalize upd H fl (.lst []) = H1 at k1 e1 ⊢
    case' last =>
      refine ⟨_, rfl, pw, "str", "tuple", false, rfl, by rw [tp_str hpol]; exact .base (.str _), by decide +kernel, _, rfl, ?_⟩
      refine ⟨(show (0:Nat) ≤ sizeLine from by decide), fun fl hfl => ?_⟩
      have k1 : Kp [] H (upd H fl (.lst [])) := Kp.new hfl
      have e1 : (upd H fl (.lst [])) fl = some (.lst ((vac0 .last).map V.int)) := upd_same
      have vl : (vac0 .last).length ≤ 200 := by simp [vac0]
      generalize upd H fl (.lst []) = H1 at k1 e1 ⊢
    case' long m =>
      obtain ⟨pa, v1, v2, rfl, hpa, t1, t2⟩ := tp_pair hpol
      rw [tp_str t1, tp_int t2] at hpa
      obtain ⟨m0, m2⟩ := hpo m rfl
      refine ⟨_, rfl, .ref pa, "tuple", "tuple", true, rfl, sqT_ty (K := K) (SqT.of hpa), isTup_yes, _, rfl, ?_⟩
      refine ⟨_, rfl, pa, _, _, _, rfl, rfl, SqT.of hpa, rfl, _, _, rfl, rfl, 1, _, rfl, rfl, RgOk.of_le (by omega) (by omega) (by omega) (by omega), fun fl hfl => ?_⟩
      have k1 : Kp [] H (upd H fl (.lst (rgV 1 (m + 1)))) := Kp.new hfl
      have e1 : (upd H fl (.lst (rgV 1 (m + 1)))) fl = some (.lst ((vac0 (.long m)).map V.int)) := by
        rw [upd_same]
        congr 2
        unfold rgV vac0
        rw [List.map_map, show (m + 1 - 1).toNat = m.toNat by congr 1; omega]
        refine List.map_congr_left fun i _ => ?_
        show V.int (1 + (i : Int)) = V.int ((i : Int) + 1)
        rw [Int.add_comm]
      have vl : (vac0 (.long m)).length ≤ 200 := by
        unfold vac0
        rw [List.length_map, List.length_range]
        omega
      generalize upd H fl (.lst (rgV 1 (m + 1))) = H1 at k1 e1 ⊢
      generalize hpv : V.ref pa = pw at hpol ⊢
    all_goals
      have hs1 := hs.kp k1
      obtain ⟨sa, o, ps, rfl, hsa, hod, hxs⟩ := hs1
      have hxl := tpAll_mlen hxs
      refine ⟨_, rfl, sa, rfl, ⟨_, .inl (.inr ⟨o, hsa⟩)⟩, fun L hL => lc_data (walk_tup (K := K) (a := sa) (xs := ps.map V.ref)) (fun i => match bs[i]? with | some b => [hpD b] | none => []) hL (fun H4 k4 => .inl (.inr ⟨o, k4.frz _ _ _ hsa⟩)) ?_ ?_⟩
      · rintro i x H4 H5 hi L4 ⟨rfl, hx⟩
        obtain ⟨b, eb, tb⟩ := tpAll_at (hxs.kp L4.kp) hx
        obtain ⟨c, rfl, hc⟩ := tp_ship tb
        refine ⟨c, _, rfl, SqT.of hc, rfl, _, _, rfl, _, _, rfl, rfl, ?_⟩
        refine ⟨wipe2 (by decide), ?_⟩
        refine ⟨_, rfl, _, rfl, _, rfl, _, rfl, (show (2:Nat) ≤ sizeLine from by decide), fun t1 ht1 => ⟨(show (2:Nat) ≤ sizeLine from by decide), fun t2 ht2 => ⟨(show (2:Nat) ≤ sizeLine from by decide), fun t3 ht3 => ?_⟩⟩⟩
        refine L4.fin (d := hpD b) (by omega) hL hi ((Kp.new ht1).trans ((Kp.new ht2).trans (Kp.new ht3))) (by rw [eb]) ?_
        exact .tup upd_same (.cons (.int _) (.cons (.tup (TK.new ht3 _ _ upd_same) (.cons (.int _) (.cons (.tup (TK.new ht3 _ _ (TK.new ht2 _ _ upd_same)) (.cons (.int _) (.cons (.int _) .nil))) .nil))) .nil))
      · intro H4 acc k4 hacc _ hT
        rw [hxl, flatMap_one bs _ hpD (fun i x e => by rw [e])] at hT
        obtain ⟨ps2, kvs, rfl, hpp, hdv⟩ := paired_held (K := K) hT
        refine ⟨L, ps2, kvs, rfl, SqL.of hacc, hpp, fun hd hhd => ?_⟩
        have hdm := mergeK_nd (H := H4) .nil hdv (by
          rw [List.nil_append, List.map_map]
          exact nd)
        rw [List.nil_append] at hdm
        have kh : Kp [] H4 (upd H4 hd (.dK (mergeK [] kvs))) := Kp.new hhd
        have eh : (upd H4 hd (.dK (mergeK [] kvs))) hd = some (.dK (mergeK [] kvs)) := upd_same
        have hdm := hdm.tk kh.tup
        generalize upd H4 hd (.dK (mergeK [] kvs)) = H5 at kh eh hdm ⊢
        have k5 := k4.trans kh
        intro d hd'
        have kd : Kp [] H5 (upd H5 d (.dK [])) := Kp.new hd'
        have ed : (upd H5 d (.dK [])) d = some (.dK []) := upd_same
        generalize upd H5 d (.dK []) = H6 at kd ed ⊢
        have k6 := k5.trans kd
        refine ⟨_, rfl, _, rfl, _, rfl, _, rfl, sa, o, ps, _, rfl, k6.frz _ _ _ hsa, hod, paired_str (hxs.kp k6), fun ud hud => ?_⟩
        have ku : Kp [] H6 (upd H6 ud (.dK (mergeK [] (bs.map fun b => ((.inl b.1 : Key), V.int b.2))))) := Kp.new hud
        have eu : (upd H6 ud (.dK (mergeK [] (bs.map fun b => ((.inl b.1 : Key), V.int b.2))))) ud = some (.dK (mergeK [] (bs.map fun b => ((.inl b.1 : Key), V.int b.2)))) := upd_same
        have hkm := mergeK_keys (acc := []) (ms := []) ⟨rfl⟩ (kvs := bs.map fun b => ((.inl b.1 : Key), V.int b.2)) (ns := bs.map (·.1)) ⟨by rw [List.map_map, List.map_map]; rfl⟩ (by rw [List.nil_append]; exact nd)
        rw [List.nil_append] at hkm
        generalize upd H6 ud (.dK (mergeK [] (bs.map fun b => ((.inl b.1 : Key), V.int b.2)))) = H7 at ku eu ⊢
        have ed7 := ku.keep _ _ ed (by simp)
        refine ⟨ed7, ldF _ ⟨d, hd, fl, ud⟩ 0, rfl, (show (5:Nat) ≤ 15 from by decide), ?_⟩
        have n1 : hd ≠ ud := fun z => by rw [← z, kd.keep _ _ eh (by simp)] at hud; cases hud
        have n2 : d ≠ hd := fun z => by rw [z, eh] at hd'; cases hd'
        have n3 : d ≠ ud := fun z => by rw [← z, ed] at hud; cases hud
        have n4 : d ≠ fl := fun z => by rw [z, (k4.trans kh).keep _ _ e1 (by simp)] at hd'; cases hd'
        have nd1 : H d = none := (k1.trans k5).free hd'
        have kf : Kp [] H (upd H7 d (.dK (ldF pw ⟨d, hd, fl, ud⟩ 0))) := ((((k1.trans k6).trans ku).mono (S' := [d]) (by simp)).put (by simp) ed7 dK_nt).less (fun b hb => .inr (by rw [show b = d by simpa using hb]; exact nd1))
        have k7f : Kp [d] H7 (upd H7 d (.dK (ldF pw ⟨d, hd, fl, ud⟩ 0))) := (Kp.refl _).put (by simp) ed7 dK_nt
        refine q ⟨d, hd, fl, ud⟩ (upd H7 d (.dK (ldF pw ⟨d, hd, fl, ud⟩ 0))) ?_ kf ⟨⟨_, _, _, _, upd_same, hpol.kp kf, k7f.keep _ _ (ku.keep _ _ (kd.keep _ _ eh (by simp)) (by simp)) (by simp [n2.symm]), hdm.tk (kd.tup.trans (ku.tup.trans k7f.tup)), k7f.keep _ _ ((k6.trans ku).keep _ _ e1 (by simp)) (by simp [n4.symm]), fun _ => rfl, ?_, k7f.keep _ _ eu (by simp [n3.symm]), hkm⟩, n1, n2, n3⟩
        · intro x hx
          have hx : x = d ∨ x = hd ∨ x = fl ∨ x = ud := by simpa [LA.foot] using hx
          rcases hx with rfl | rfl | rfl | rfl
          · exact nd1
          · exact (k1.trans k4).free hhd
          · exact hfl
          · exact (k1.trans k6).free hud
        · show (vac0 _).length + (bs.map st0).length ≤ 2000
          rw [List.length_map]
          omega
end
end Ba

set_option maxHeartbeats 400000
namespace Ba
open PySem PySem.Spec PyProof.Rows L2
theorem nd_inl {l : List St4} (h : (l.map (·.1)).Nodup) : (l.map fun s => (Sum.inl s.1 : Key)).Nodup := by
  induction l with
  | nil => exact .nil
  | cons a l ih =>
    rw [List.map_cons, List.nodup_cons] at h ⊢
    refine ⟨fun m => h.1 ?_, ih h.2⟩
    obtain ⟨x, hx, e⟩ := List.mem_map.mp m
    injection e with e
    exact List.mem_map.mpr ⟨x, hx, e⟩
section
variable {P : Program} {w : World} {K : PySem.W.Frag} {mg : Str → Option Value} {base : Heap} {f : Addr} {fd : FuncData}
abbrev spLawLeast : Sp := Pr fun vs H Q _ => ∃ (d : Addr) (kvs : List (Key × V)) (ns : List Int), vs = [.ref d] ∧ H d = some (.dK kvs) ∧ KeysAt kvs ns ∧ Q (.int (leastNot ns)) H
theorem ok_law_least (F : FunS K "_law_least_not_in" "_law_least_not_in" s__law_least_not_in [] [] f fd) (hm : mg "_law_least_not_in" = some (.ref f)) :
    DefOk P w K mg base "_law_least_not_in" 1 p__law_least_not_in [] spLawLeast := by
  have S := sc__law_least_not_in
  refine defOk F hm S (fun _ _ _ _ _ _ us hl => match us, hl with | [_], _ => rfl) (fun vs H Q E h => ?_) (fun cdv A outer s H vs Q E hr h => ?_)
  · obtain ⟨d, kvs, ns, rfl, _⟩ := h
    rfl
  · obtain ⟨d, kvs, ns, rfl, hd, hk, q⟩ := h
    refine ⟨_, (pss_cons (ps_set (i := 1) S.nd rfl (Or.inl rfl) pe_int)
      (pss_cons (ps_while (passes_of rfl) (pt_cmp (pc_din (hu_of hr) (pv 1) (pv 0)))
      (pss_one (ps_set (i := 1) S.nd rfl (Or.inl rfl) (pe_op op_add (pv 1) pe_int))))
      (pss_one (ps_ret (pv 1))))), ?_⟩
    refine ⟨fun m σ G => ∃ (n : Nat) (y : Int), m = n ∧ σ = [some (.ref d), some (.int y)] ∧ G = H ∧ y + n = ns.length + 1 ∧ 1 ≤ y ∧ (∀ z, 1 ≤ z → z < y → z ∈ ns) ∧ leastFrom ns n y = leastNot ns, ⟨_, ns.length, 1, rfl, rfl, rfl, by omega, by omega, fun z h1 h2 => by omega, rfl⟩, ?_⟩
    rintro n σ G ⟨_, y, rfl, rfl, rfl, hn, h1, ha, he⟩
    refine ⟨_, rfl, _, rfl, d, _, rfl, DGet.k (k := .inl y) hd, _, rfl, ?_⟩
    rw [hk.val, contains_any]
    cases e : ns.contains y with
    | true =>
      cases n with
      | zero =>
        exfalso
        have hm : y ∈ ns := List.contains_iff_mem.mp e
        exact (leastFrom_not ns 0 y hn h1 ha).1 hm
      | succ n =>
        refine iteT ?_
        refine ⟨fun σ' G' => ∃ y', n = n ∧ σ' = [some (.ref d), some (.int y')] ∧ G' = G ∧ y' + n = ns.length + 1 ∧ 1 ≤ y' ∧ (∀ z, 1 ≤ z → z < y' → z ∈ ns) ∧ leastFrom ns n y' = leastNot ns, fun σ' G' ⟨y', r⟩ => ⟨n, Nat.lt_succ_self _, n, y', r⟩, ?_⟩
        refine ⟨_, rfl, _, _, rfl, rfl, ?_⟩
        refine ⟨y + 1, rfl, rfl, rfl, by omega, by omega, fun z z1 z2 => ?_, ?_⟩
        · by_cases ez : z = y
          · rw [ez]; exact List.contains_iff_mem.mp e
          · exact ha z z1 (by omega)
        · rw [← he]
          show leastFrom ns n (y + 1) = if ns.contains y = true then leastFrom ns n (y + 1) else y
          rw [if_pos e]
    | false =>
      refine iteF ?_
      refine ⟨_, rfl, ?_⟩
      have : leastFrom ns n y = y := by
        cases n with
        | zero => rfl
        | succ n =>
          show (if ns.contains y = true then leastFrom ns n (y + 1) else y) = y
          rw [if_neg (by rw [e]; exact Bool.false_ne_true)]
      rw [← he, this] at q
      exact q
abbrev spLawLeave : Sp := Pr fun vs H Q _ => ∃ (a : LA) (D : Dk) (t : Int) (N : Nat), vs = [.ref a.d, .int t] ∧ LDAt N H a D ∧ (D.stays.map (·.1)).Nodup ∧ N ≤ 1000000 ∧
  ∀ H', Kp a.foot H H' → LDAt N H' a (leaveM D t) → Q .non H'
theorem LDAt.foot_ne {N : Nat} {H : Hp} {a : LA} {D : Dk} (hD : LDAt N H a D) {p : Addr} (hp : H p = none) : p ∉ a.foot := fun z => hD.live p z hp
theorem ok_law_leave (B : Bi mg) (F : FunS K "_law_leave" "_law_leave" s__law_leave [] [] f fd) (hm : mg "_law_leave" = some (.ref f)) : DefOk P w K mg base "_law_leave" 1 p__law_leave [] spLawLeave := by
  have S := sc__law_leave
  refine defOk F hm S (fun _ _ _ _ _ _ us hl => match us, hl with | [_, _], _ => rfl) (fun vs H Q E h => ?_) (fun cdv A outer s H vs Q E hr h => ?_)
  · obtain ⟨a, D, t, N, rfl, _⟩ := h
    rfl
  · obtain ⟨a, D, t, N, rfl, hD, hnd, hN, q⟩ := h
    refine ⟨_, (pss_cons (ps_lock (ps_setLc (i := 2) (own := [("_law_berth", 3), ("_law_until", 4), ("_law_order", 5)]) (g := (gTup K 2 (gCons (gName 3) (gCons (gTup K 2 (gCons (gName 4) (gCons (gName 5) gNil))) gNil)))) rfl S.nd rfl rfl (sw_true rfl rfl rfl (by decide +kernel)) (pi_items (pe_dget (hu_of hr) (pv 0) pe_str (fun _ _ => rfl))) (blkOk_by (own := [("_law_berth", 3), ("_law_until", 4), ("_law_order", 5)]) (N := n__law_leave) (sc := defScope s__law_leave) (by decide +kernel)) (fun _ _ _ _ _ => (pg_tup rfl (pgs_cons (pg_name (i := 3) S.nd rfl (Or.inl rfl)) (pgs_cons (pg_tup rfl (pgs_cons (pg_name (i := 4) S.nd rfl (Or.inl rfl)) (pgs_cons (pg_name (i := 5) S.nd rfl (Or.inl rfl)) pgs_nil))) pgs_nil)))) (fun _ _ _ _ _ => (pts_one (pt_cmpR op_le (pv 4) (pv 1) (nomark _)))) (fun _ _ _ _ _ => (pe_tup (pa_cons (pv 4) (pa_cons (pv 5) (pa_cons (pv 3) pa_nil)))))))
      (pss_one (ps_for (passes_of rfl) rfl (pi_list (pe_callB (cr_sortD hr.units encL) (by rfl) B.sorted (by decide +kernel) (pa_cons (pv 2) pa_nil))) (pg_tup rfl (pgs_cons (pg_name (i := 4) S.nd rfl (Or.inl rfl)) (pgs_cons (pg_name (i := 5) S.nd rfl (Or.inl rfl)) (pgs_cons (pg_name (i := 3) S.nd rfl (Or.inl rfl)) pgs_nil))))
      (pss_cons (ps_expr (pe_dpop1 (pe_dget (hu_of hr) (pv 0) pe_str (fun _ _ => rfl)) (pv 3) ⟨rfl, rfl, rfl, rfl⟩))
      (pss_one (ps_expr (pe_bm PySem.F.plainAttrs_list PySem.F.slot_list_append PySem.F.type_list_append mt_append (pe_dget (hu_of hr) (pv 0) pe_str (fun _ _ => rfl)) (pa_cons (pv 3) pa_nil)))))))), ?_⟩
    obtain ⟨⟨pv, skvs, ukvs, fl, h1, h2, h4, h5, h6, hfl, hlen, h7, h8⟩, su, n1, n3⟩ := id hD
    have hsz : (2000000 : Nat) < sizeLine := by decide
    refine ⟨a.hd, .dK skvs, h4, by trivial, fun od => ?_⟩
    have g1 := (upd_ne (o := .frz od (.dK skvs)) n1).trans h1
    refine ⟨_, rfl, a.d, _, rfl, ld_held g1, a.hd, od, skvs, rfl, upd_same, fun L hL => ?_⟩
    refine (lc_data (walk_items (d := a.hd) (o := od) (kvs := skvs)) (fun i => match D.stays[i]? with | some s => if decide (s.2.1 ≤ t) = true then [encL (lvOf s)] else [] | none => []) hL (fun H4 k4 => k4.keep _ _ upd_same (by simp)) ?_ ?_)
    · rintro i x H4 H5 hi L4 ⟨T, k, v, ek, rfl, hT, rfl⟩
      have tk4 : TK H H4 := (tk_frz h4 dK_nt).trans L4.kp.tup
      obtain ⟨s, es, rfl, ts⟩ := (h5.tk tk4).at ek
      obtain ⟨c, o, rfl, hc, ho⟩ := tp_st ts
      have hc2 : (upd H4 T (.tup [.int s.1, .ref c])) c = _ := (TK.new hT) _ _ hc
      refine ⟨T, _, rfl, SqT.of upd_same, rfl, _, _, rfl, _, _, rfl, ⟨c, _, rfl, SqT.of hc2, rfl, _, _, rfl, _, _, rfl, rfl, ?_⟩⟩
      refine ⟨rfl, ?_⟩
      refine ⟨wipe3 (by decide), ?_⟩
      have hi2 : skvs.length < 2000000 := by
        have := h5.len
        omega
      refine ⟨_, rfl, _, rfl, _, _, rfl, rfl, _, rfl, ?_⟩
      by_cases hle : s.2.1 ≤ t
      · refine iteT' (decide_eq_true hle) ?_
        refine ⟨_, rfl, _, rfl, _, rfl, (show (3:Nat) ≤ sizeLine from by decide), fun t1 ht1 => ?_⟩
        refine L4.fin (d := encL (lvOf s)) hi2 hL hi ((Kp.new hT).trans (Kp.new ht1)) (by rw [es]; exact if_pos (decide_eq_true hle)) (.tup upd_same (.cons (.int _) (.cons (.tup (TK.new ht1 _ _ (TK.new hT _ _ ho)) (.cons (.int _) (.cons (.int _) .nil))) (.cons (.int _) .nil))))
      · refine iteF' (decide_eq_false hle) ?_
        exact L4.skip hi (Kp.new hT) (by rw [es]; exact if_neg (by rw [decide_eq_false hle]; exact Bool.false_ne_true))
    · intro H4 acc k4 hacc _ hT
      rw [h5.len, flatMap_some D.stays _ (fun s => if decide (s.2.1 ≤ t) = true then [encL (lvOf s)] else []) (fun i x e => by rw [e]), flatMap_if] at hT
      rw [show (D.stays.filter fun s => decide (s.2.1 ≤ t)).map (fun s => encL (lvOf s)) = ((D.stays.filter fun s => decide (s.2.1 ≤ t)).map lvOf).map encL by rw [List.map_map]; rfl] at hT
      refine ⟨k4.keep _ _ upd_same (by simp), ?_⟩
      have k6 : Kp [] H (upd H4 a.hd (.dK skvs)) := kp_unlock h4 dK_nt k4
      have nLs : L ≠ a.hd := fun z => by rw [z, upd_same] at hL; cases hL
      have hacc6 : (upd H4 a.hd (.dK skvs)) L = some (.lst acc) := by rw [upd_ne nLs]; exact hacc
      have hT6 : TpAll (upd H4 a.hd (.dK skvs)) acc _ := TpAll.mono (fun b ys e => by rw [upd_ne (ne_of e (k4.keep _ _ upd_same (by simp)) (fun z => nomatch z))]; exact e) _ _ hT
      generalize upd H4 a.hd (.dK skvs) = H6 at k6 hacc6 hT6 ⊢
      refine ⟨_, rfl, L, acc, _, rfl, SqL.of hacc6, hT6, encL_alike, fun b => ⟨_, _, rfl⟩, encL_depth, fun ys p hys hyl hp => ?_⟩
      have k67 : Kp [] H6 (upd H6 p (.lst ys)) := Kp.new hp
      have hys7 := hys.kp k67
      have hp7 : (upd H6 p (.lst ys)) p = some (.lst ys) := upd_same
      generalize upd H6 p (.lst ys) = H7 at k67 hys7 hp7 ⊢
      have k7 := k6.trans k67
      have D7 := hD.kp k7 (by simp)
      have hpf : p ∉ a.foot := hD.foot_ne (k6.free hp)
      have hys8 : TpAll H7 ys ((lvs D.stays t).map encL) := hys7
      have hyl8 : ys.length = (lvs D.stays t).length := tpAll_mlen hys8
      refine ⟨p, rfl, ⟨ys, SqL.of hp7⟩, for_it (walk_list (K := K) (a := p) (xs := ys)) (fun i σ H => ∃ o3 o4 o5 : Option V, σ = [some (.ref a.d), some (.int t), some (.ref L), o3, o4, o5] ∧ Kp a.foot H7 H ∧ LDAt N H a (leaveI D t i)) ⟨none, none, none, rfl, Kp.refl _, by rw [leaveI_zero]; exact D7⟩ ?_ ?_ ?_⟩
      · rintro i σ H8 _ ⟨o3, o4, o5, rfl, k8, _⟩
        exact SqL.of (k8.keep _ _ hp7 hpf)
      · rintro i x σ H8 H9 hi ⟨o3, o4, o5, rfl, k8, D8⟩ ⟨rfl, hx⟩
        obtain ⟨l, el, tl⟩ := tpAll_at (hys8.kp k8) hx
        obtain ⟨c3, o, rfl, hc3, ho⟩ := tp_lv tl
        refine ⟨c3, _, rfl, SqT.of hc3, rfl, _, _, rfl, _, _, rfl, _, _, rfl, rfl, ?_⟩
        obtain ⟨⟨pv', skvs', ukvs', fl', g1, g2, g4, g5, g6, gfl, glen, g7, g8⟩, _⟩ := D8
        have hil := (List.getElem?_eq_some_iff.mp el).1
        obtain ⟨s0, hs0, es0, hle0⟩ := lvs_sub (List.mem_of_getElem? el)
        have hin : s0 ∈ (leaveI D t i).stays := by
          refine List.mem_filter.mpr ⟨hs0, ?_⟩
          rw [Bool.not_eq_true', ← Bool.not_eq_true, List.contains_iff_mem]
          intro hm
          obtain ⟨l2, hl2, e2⟩ := List.mem_map.mp hm
          exact nd_take (·.2.2.2) (lvs_nd hnd) el l2 hl2 (by rw [e2, es0]; rfl)
        have hndi : ((leaveI D t i).stays.map (·.1)).Nodup := (List.Sublist.map _ List.filter_sublist).nodup hnd
        obtain ⟨vv, hvv, _⟩ := g5.valAt hin hndi
        have eb : s0.1 = l.2.2.2 := by rw [es0]; rfl
        rw [eb] at hvv
        refine ⟨_, rfl, a.d, _, rfl, ld_held g1, a.hd, rfl, .inl ⟨_, .inl g4⟩, _, rfl, skvs', .inl l.2.2.2, vv, g4, rfl, hvv, ?_⟩
        have kd : Kp a.foot H9 (upd H9 a.hd (.dK (dropK skvs' (.inl l.2.2.2)))) := (Kp.refl _).put (by simp [LA.foot]) g4 dK_nt
        have G1 := (upd_ne (H := H9) (o := .dK (dropK skvs' (.inl l.2.2.2))) n1).trans g1
        have G4 : (upd H9 a.hd (.dK (dropK skvs' (.inl l.2.2.2)))) a.hd = _ := upd_same
        have nhf : a.fd ≠ a.hd := fun z => by rw [z, g4] at g6; cases g6
        have ndf : a.d ≠ a.fd := fun z => by rw [z, g6] at g1; cases g1
        have nuf : a.ud ≠ a.fd := fun z => by rw [z, g6] at g7; cases g7
        have G6 := (upd_ne (H := H9) (o := .dK (dropK skvs' (.inl l.2.2.2))) nhf).trans g6
        have G7 := (upd_ne (H := H9) (o := .dK (dropK skvs' (.inl l.2.2.2))) su.symm).trans g7
        have G5 := (g5.drop l.2.2.2).tk kd.tup
        generalize upd H9 a.hd (.dK (dropK skvs' (.inl l.2.2.2))) = H10 at kd G1 G4 G5 G6 G7 ⊢
        have hvl : (fl'.map V.int).length < sizeLine := by
          rw [List.length_map]
          omega
        refine ⟨_, rfl, a.d, _, rfl, ld_free G1, .inl ⟨rfl, _, SqL.of G6⟩, _, rfl, a.fd, _, _, rfl, rfl, G6, hvl, ?_⟩
        have kv : Kp a.foot H10 (upd H10 a.fd (.lst (fl'.map V.int ++ [.int l.2.2.2]))) := (Kp.refl _).put (by simp [LA.foot]) G6 lst_nt
        have hlen2 : ((leaveI D t (i + 1)).stays).length + 1 = (leaveI D t i).stays.length := by
          rw [leaveI_succ D t el]
          have := dropK_len (kvs := skvs') (k := .inl l.2.2.2) (by rw [g5.keys]; exact (nd_inl hndi)) (by rw [g5.keys]; exact List.mem_map.mpr ⟨s0, hin, by rw [eb]⟩)
          rw [G5.len, g5.len] at this
          exact this
        refine ⟨_, _, _, rfl, (k8.trans kd).trans kv, ⟨⟨pv', _, ukvs', fl' ++ [l.2.2.2], (upd_ne ndf).trans G1, (g2.kp kd).kp kv, (upd_ne nhf.symm).trans G4, ?_, ?_, ?_, ?_, (upd_ne nuf).trans G7, g8⟩, su, n1, n3⟩⟩
        · rw [leaveI_succ D t el]; exact G5.tk kv.tup
        · rw [upd_same, List.map_append]; rfl
        · intro hl
          have hl' : D.pol.isLeast = false := hl
          have := gfl hl
          rw [this]
          unfold leaveI
          simp only [hl', Bool.false_eq_true, if_false]
          rw [List.take_add_one, el, List.map_append, List.append_assoc]
          rfl
        · rw [List.length_append]
          show fl'.length + 1 + _ ≤ N
          omega
      · rintro σ H8 ⟨o3, o4, o5, rfl, k8, D8⟩
        rw [hyl8, leaveI_end D t hnd] at D8
        exact q H8 ((k7.mono (by simp)).trans k8) D8
end
end Ba

set_option maxHeartbeats 400000
namespace Ba
open PySem PySem.Spec PyProof.Rows L2
section
variable {P : Program} {w : World} {K : PySem.W.Frag} {mg : Str → Option Value} {base : Heap} {f : Addr} {fd : FuncData}
abbrev spLawChoice : Sp := Pr fun vs H Q _ => ∃ (a : LA) (D : Dk) (N : Nat), vs = [.ref a.d] ∧ LDAt N H a D ∧
  ∀ H', Kp a.foot H H' → (∀ b D', chooseM D = some (b, D') → LDAt N H' a D' → Q (.int b) H') ∧ (chooseM D = none → LDAt N H' a D → Q .non H')
theorem LDAt.setFree {N : Nat} {H : Hp} {a : LA} {D : Dk} (hD : LDAt N H a D) (vac : List Int) (hl : vac.length + D.stays.length ≤ N) : Kp a.foot H (upd H a.fd (.lst (vac.map V.int))) ∧ LDAt N (upd H a.fd (.lst (vac.map V.int))) a { D with vac := vac } := by
  obtain ⟨⟨pv, skvs, ukvs, fl, h1, h2, h4, h5, h6, hfl, hlen, h7, h8⟩, su, n1, n3⟩ := hD
  have kv : Kp a.foot H (upd H a.fd (.lst (vac.map V.int))) := (Kp.refl _).put (by simp [LA.foot]) h6 lst_nt
  have nv : ∀ {b : Addr} {u : HO}, H b = some u → (∀ k, u ≠ .lst k) → b ≠ a.fd := fun {b u} e n z => by rw [z, h6] at e; cases e; exact n _ rfl
  exact ⟨kv, ⟨pv, skvs, ukvs, vac, (upd_ne (nv h1 (fun _ z => nomatch z))).trans h1, h2.kp kv, (upd_ne (nv h4 (fun _ z => nomatch z))).trans h4, h5.tk kv.tup, upd_same, fun _ => rfl, hl, (upd_ne (nv h7 (fun _ z => nomatch z))).trans h7, h8⟩, su, n1, n3⟩
theorem ok_law_choice (D__law_least_not_in : DefOk P w K mg base "_law_least_not_in" 1 p__law_least_not_in [] spLawLeast) (F : FunS K "_law_choice" "_law_choice" s__law_choice [] [] f fd) (hm : mg "_law_choice" = some (.ref f)) :
    DefOk P w K mg base "_law_choice" 2 p__law_choice [] spLawChoice := by
  have S := sc__law_choice
  refine defOk F hm S (fun _ _ _ _ _ _ us hl => match us, hl with | [_], _ => rfl) (fun vs H Q E h => ?_) (fun cdv A outer s H vs Q E hr h => ?_)
  · obtain ⟨a, D, N, rfl, _⟩ := h
    rfl
  · obtain ⟨a, D, N, rfl, hD, q⟩ := h
    refine ⟨_, (pss_cons (ps_if (pt_cmpR (op_eqP hr.units) (pe_dget (hu_of hr) (pv 0) pe_str (fun _ _ => rfl)) pe_str (nomark _)) (pss_one (ps_ret (pe_fn D__law_least_not_in (hr.mono (by decide)) passLB rfl (pa_cons (pe_dget (hu_of hr) (pv 0) pe_str (fun _ _ => rfl)) pa_nil)))) pss_nil)
      (pss_cons (ps_if (pt_cmpR (op_eqP hr.units) (pe_dget (hu_of hr) (pv 0) pe_str (fun _ _ => rfl)) pe_str (nomark _)) (pss_one (ps_ret (pe_ifExp (pt_cmpR (op_neP hr.units) (pe_dget (hu_of hr) (pv 0) pe_str (fun _ _ => rfl)) (pe_lst pa_nil) (nomark _)) (pe_bm0 PySem.F.plainAttrs_list PySem.F.slot_list_pop PySem.F.type_list_pop mt_pop (pe_dget (hu_of hr) (pv 0) pe_str (fun _ _ => rfl))) (pe_fn D__law_least_not_in (hr.mono (by decide)) passLB rfl (pa_cons (pe_dget (hu_of hr) (pv 0) pe_str (fun _ _ => rfl)) pa_nil))))) pss_nil)
      (pss_one (ps_ret (pe_ifExp (pt_cmpR (op_neP hr.units) (pe_dget (hu_of hr) (pv 0) pe_str (fun _ _ => rfl)) (pe_lst pa_nil) (nomark _)) (pe_bm PySem.F.plainAttrs_list PySem.F.slot_list_pop PySem.F.type_list_pop mt_popAt (pe_dget (hu_of hr) (pv 0) pe_str (fun _ _ => rfl)) (pa_cons pe_int pa_nil)) pe_non))))), ?_⟩
    obtain ⟨⟨pv, skvs, ukvs, fl, h1, h2, h4, h5, h6, hfl, hlen, h7, h8⟩, su, n1, n3⟩ := id hD
    refine ⟨_, rfl, a.d, _, rfl, ld_policy h1, polD D.pol, .str "least", Tp.dp _ _ h2, .str _, polD_plain _, rfl, polD_depth _, _, rfl, ?_⟩
    cases ep : D.pol with
    | least =>
      refine ⟨_, rfl, a.d, _, rfl, ld_held h1, a.hd, skvs, _, rfl, h4, h5.keysAt, ?_⟩
      exact (q H (Kp.refl _)).1 _ D (by unfold chooseM; rw [ep]) hD
    | last =>
      have efl : fl = D.vac := hfl (by rw [ep]; rfl)
      subst efl
      refine ⟨_, rfl, a.d, _, rfl, ld_policy h1, polD .last, .str "last", by rw [← ep]; exact Tp.dp _ _ h2, .str _, polD_plain _, rfl, polD_depth _, _, rfl, ?_⟩
      refine ⟨_, rfl, a.d, _, rfl, ld_free h1, (show (0:Nat) ≤ sizeLine from by decide), fun p hp => ?_⟩
      have k1 : Kp [] H (upd H p (.lst [])) := Kp.new hp
      have hp1 : (upd H p (.lst [])) p = some (.lst (([] : List Int).map V.int)) := upd_same
      generalize upd H p (.lst []) = H1 at k1 hp1 ⊢
      have D1 := hD.kp k1 (by simp)
      have g1 := k1.keep _ _ h1 (by simp)
      have g6 := k1.keep _ _ h6 (by simp)
      have g7 := k1.keep _ _ h7 (by simp)
      refine ⟨_, _, dp_intL g6, dp_intL hp1, plain_ints D.vac, rfl, list_depth _, _, rfl, ?_⟩
      rw [show (([] : List Int).map PyData.int) = [] from rfl, eqv_nil]
      cases ev : D.vac with
      | nil =>
        refine ⟨_, rfl, a.d, _, rfl, ld_used g1, a.ud, ukvs, _, rfl, g7, h8, ?_⟩
        exact (q H1 (k1.mono (by simp))).1 _ D (by unfold chooseM; rw [ep, ev]; rfl) D1
      | cons v0 vr =>
        have hne : D.vac ≠ [] := by rw [ev]; exact List.cons_ne_nil _ _
        have hl : (D.vac.map V.int)[(D.vac.map V.int).length - 1]? = some (V.int (D.vac.getLast hne)) := by
          rw [← List.getLast?_eq_getElem?, List.getLast?_map, List.getLast?_eq_some_getLast hne]
          rfl
        refine ⟨_, rfl, a.d, _, rfl, ld_free g1, .inl ⟨rfl, _, SqL.of g6⟩, a.fd, _, _, rfl, rfl, g6, hl, ?_⟩
        rw [← List.map_dropLast]
        obtain ⟨kv, Dv⟩ := D1.setFree D.vac.dropLast (by rw [List.length_dropLast]; omega)
        exact (q _ ((k1.mono (by simp)).trans kv)).1 _ { D with vac := D.vac.dropLast } (by unfold chooseM; rw [ep]; simp only; rw [List.getLast?_eq_some_getLast hne]) Dv
    | long m =>
      have efl : fl = D.vac := hfl (by rw [ep]; rfl)
      subst efl
      refine ⟨_, rfl, a.d, _, rfl, ld_policy h1, polD (.long m), .str "last", by rw [← ep]; exact Tp.dp _ _ h2, .str _, polD_plain _, rfl, polD_depth _, _, rfl, ?_⟩
      refine ⟨_, rfl, a.d, _, rfl, ld_free h1, (show (0:Nat) ≤ sizeLine from by decide), fun p hp => ?_⟩
      have k1 : Kp [] H (upd H p (.lst [])) := Kp.new hp
      have hp1 : (upd H p (.lst [])) p = some (.lst (([] : List Int).map V.int)) := upd_same
      generalize upd H p (.lst []) = H1 at k1 hp1 ⊢
      have D1 := hD.kp k1 (by simp)
      have g1 := k1.keep _ _ h1 (by simp)
      have g6 := k1.keep _ _ h6 (by simp)
      refine ⟨_, _, dp_intL g6, dp_intL hp1, plain_ints D.vac, rfl, list_depth _, _, rfl, ?_⟩
      rw [show (([] : List Int).map PyData.int) = [] from rfl, eqv_nil]
      cases ev : D.vac with
      | nil =>
        exact (q H1 (k1.mono (by simp))).2 (by unfold chooseM; rw [ep, ev]) D1
      | cons v0 vr =>
        have g6' : H1 a.fd = some (.lst (V.int v0 :: vr.map V.int)) := by rw [g6, ev]; rfl
        have hsx : seqIndex? 0 (V.int v0 :: vr.map V.int).length = some 0 := by
          unfold seqIndex?
          simp
        refine ⟨_, rfl, a.d, _, rfl, ld_free g1, .inl ⟨rfl, _, SqL.of g6⟩, a.fd, _, 0, 0, _, rfl, rfl, g6', by decide, by decide, hsx, rfl, ?_⟩
        obtain ⟨kv, Dv⟩ := D1.setFree vr (by rw [ev] at hlen; simp only [List.length_cons] at hlen; omega)
        exact (q _ ((k1.mono (by simp)).trans kv)).1 _ { D with vac := vr } (by unfold chooseM; rw [ep]; simp only; rw [ev]) Dv
/-- held[b] = .., used[b] = True -/
theorem LDAt.enter {N : Nat} {H : Hp} {a : LA} {D : Dk} (hD : LDAt N H a D) {s : St4} {v : V} (tv : Tp H v (stD s)) : ∃ pv skvs, H a.d = some (.dK (ldF pv a D.day)) ∧ H a.hd = some (.dK skvs) ∧ skvs.length ≤ N ∧ ∃ H1, H1 = upd H a.hd (.dK (putK skvs (.inl s.1) v)) ∧ Kp a.foot H H1 ∧
    ∃ ukvs, H1 a.d = some (.dK (ldF pv a D.day)) ∧ H1 a.ud = some (.dK ukvs) ∧ ukvs.length = D.used.length ∧ Kp a.foot H1 (upd H1 a.ud (.dK (putK ukvs (.inl s.1) (.bl true)))) ∧ LDAt (N + 1) (upd H1 a.ud (.dK (putK ukvs (.inl s.1) (.bl true)))) a { D with stays := putS D.stays s, used := putN D.used s.1 } := by
  obtain ⟨⟨pv, skvs, ukvs, fl, h1, h2, h4, h5, h6, hfl, hlen, h7, h8⟩, su, n1, n3⟩ := id hD
  have hlk := h5.len
  refine ⟨pv, skvs, h1, h4, by omega, _, rfl, ?_⟩
  have kd : Kp a.foot H (upd H a.hd (.dK (putK skvs (.inl s.1) v))) := (Kp.refl _).put (by simp [LA.foot]) h4 dK_nt
  have nhf : a.fd ≠ a.hd := fun z => by rw [z, h4] at h6; cases h6
  have nuf : a.fd ≠ a.ud := fun z => by rw [z, h7] at h6; cases h6
  have G1 := (upd_ne (H := H) (o := .dK (putK skvs (.inl s.1) v)) n1).trans h1
  have G6 := (upd_ne (H := H) (o := .dK (putK skvs (.inl s.1) v)) nhf).trans h6
  have G7 := (upd_ne (H := H) (o := .dK (putK skvs (.inl s.1) v)) su.symm).trans h7
  have G4 : (upd H a.hd (.dK (putK skvs (.inl s.1) v))) a.hd = _ := upd_same
  have G5 := (h5.putS (s := s) tv).tk kd.tup
  have G2 := h2.kp kd
  refine ⟨kd, ukvs, G1, G7, h8.len, ?_⟩
  generalize upd H a.hd (.dK (putK skvs (.inl s.1) v)) = H1 at G1 G6 G7 G4 G5 G2 ⊢
  have ku : Kp a.foot H1 (upd H1 a.ud (.dK (putK ukvs (.inl s.1) (.bl true)))) := (Kp.refl _).put (by simp [LA.foot]) G7 dK_nt
  refine ⟨ku, ⟨pv, _, _, fl, (upd_ne n3).trans G1, G2.kp ku, (upd_ne su).trans G4, G5.tk ku.tup, (upd_ne nuf).trans G6, hfl, ?_, upd_same, h8.put s.1 (.bl true)⟩, su, n1, n3⟩
  have := putS_len D.stays s
  show fl.length + (putS D.stays s).length ≤ N + 1
  omega
theorem LDAt.setDay {N : Nat} {H : Hp} {a : LA} {D : Dk} (hD : LDAt N H a D) {pv : V} (h1 : H a.d = some (.dK (ldF pv a D.day))) (day : Int) : Kp a.foot H (upd H a.d (.dK (ldF pv a day))) ∧ LDAt N (upd H a.d (.dK (ldF pv a day))) a { D with day := day } := by
  obtain ⟨⟨pv', skvs, ukvs, fl, h1', h2, h4, h5, h6, hfl, hlen, h7, h8⟩, su, n1, n3⟩ := id hD
  rw [h1] at h1'
  have e1 : pv = pv' := by
    injection h1' with z
    injection z with z
    unfold ldF at z
    injection z with z1 z
    injection z1
  subst e1
  have kd : Kp a.foot H (upd H a.d (.dK (ldF pv a day))) := (Kp.refl _).put (by simp [LA.foot]) h1 dK_nt
  have ndf : a.fd ≠ a.d := fun z => by rw [z, h1] at h6; cases h6
  exact ⟨kd, ⟨pv, skvs, ukvs, fl, upd_same, h2.kp kd, (upd_ne n1.symm).trans h4, h5.tk kd.tup, (upd_ne ndf).trans h6, hfl, hlen, (upd_ne n3.symm).trans h7, h8⟩, su, n1, n3⟩
end
end Ba

set_option maxHeartbeats 400000
namespace Ba
open PySem PySem.Spec PyProof.Rows L2
theorem ordM_mem2 {ss : List (Int × Int)} {e : Int × Int} (h : e ∈ ordM ss) : ∃ (k : Nat) (s : Int × Int), ss[k]? = some s ∧ e = (s.1, (k : Int)) := by
  have h := (List.mergeSort_perm _ _).mem_iff.mp h
  obtain ⟨i, hi, rfl⟩ := List.getElem_of_mem h
  rw [List.length_mapIdx] at hi
  exact ⟨i, ss[i], List.getElem?_eq_getElem hi, by rw [List.getElem_mapIdx]⟩
theorem enterM_some {D D' : Dk} {ship : Nat} {delay b : Int} (h : enterM D ship delay = some (b, D')) {s : Int × Int} (hs : D.ss[ship]? = some s) :
    ∃ D2, chooseM (leaveM D (D.day * D.h + s.1)) = some (b, D2) ∧ D' = { D2 with stays := putS D2.stays (b, D.day * D.h + s.1 + s.2 + delay, D.day * D.h + s.1, (ship : Int)), used := putN D2.used b } := by
  unfold enterM at h
  rw [hs] at h
  simp only at h
  cases e : chooseM (leaveM D (D.day * D.h + s.1)) with
  | none => rw [e] at h; cases h
  | some p =>
    obtain ⟨b2, D2⟩ := p
    rw [e] at h
    cases h
    exact ⟨D2, rfl, rfl⟩
section
variable {P : Program} {w : World} {K : PySem.W.Frag} {mg : Str → Option Value} {base : Heap} {f : Addr} {fd : FuncData}
abbrev spLawDay : Sp := Pr fun vs H Q _ => ∃ (a : LA) (tv : V) (D : Dk) (N : Nat), vs = [.ref a.d, tv] ∧ LDAt N H a D ∧ DkOk N D ∧ N ≤ 900000 ∧ Tp H tv (tbD D.h D.ss) ∧ TabOk D.h D.ss ∧
  (∀ (D1 : Dk) (cs : List Cl3) (p : Addr) (xs : List V) H', dayM D = some (cs, D1) → H p = none → Kp a.foot H H' → H' p = some (.lst xs) → LDAt (N + 24) H' a D1 → Q (.ref p) H') ∧
  (∀ (e : Int) (p : Addr) H', LackL D e → H p = none → p ∉ a.foot → Kp a.foot H H' → H' p = some (.tup [.int D.day, .int e]) → Q (.ref p) H')
theorem ok_law_day (B : Bi mg) (D__law_leave : DefOk P w K mg base "_law_leave" 1 p__law_leave [] spLawLeave) (D__law_choice : DefOk P w K mg base "_law_choice" 2 p__law_choice [] spLawChoice) (F : FunS K "_law_day" "_law_day" s__law_day [] [] f fd) (hm : mg "_law_day" = some (.ref f)) :
    DefOk P w K mg base "_law_day" 3 p__law_day [] spLawDay := by
  have S := sc__law_day
  refine defOk F hm S (fun _ _ _ _ _ _ us hl => match us, hl with | [_, _], _ => rfl) (fun vs H Q E h => ?_) (fun cdv A outer s H vs Q E hr h => ?_)
  · obtain ⟨a, tv, D, N, rfl, _⟩ := h
    rfl
  · obtain ⟨a, tv, D, N, rfl, hD, hok, hN, ht, htab, q, q2⟩ := h
    refine ⟨_, (pss_cons (ps_asg (pv 1) (pg_tup rfl (pgs_cons (pg_name (i := 2) S.nd rfl (Or.inl rfl)) (pgs_cons (pg_name (i := 3) S.nd rfl (Or.inr rfl)) pgs_nil))))
      (pss_cons (ps_set (i := 4) S.nd rfl (Or.inl rfl) (pe_lst pa_nil))
      (pss_cons (ps_for (passes_of rfl) rfl (pi_list (pe_callB (cr_sortD hr.units shD) (by rfl) B.sorted (by decide +kernel) (pa_cons (pe_lc (own := [("_law_k", 7)]) (g := (gName 7)) (tt := tYes) (by rfl) S.nd (pi_range1 (by rfl) B.range (pa_cons (pe_callB call_len_seq (by rfl) B.len (by decide +kernel) (pa_cons (pv 3) pa_nil)) pa_nil)) (blkOk_by (own := [("_law_k", 7)]) (N := n__law_day) (sc := defScope s__law_day) (by decide +kernel)) (fun _ _ _ _ _ => (pg_name (i := 7) S.nd rfl (Or.inl rfl))) (fun _ _ _ _ _ => pts_nil) (fun _ _ _ _ _ => (pe_tup (pa_cons (pe_ix (show IxR _ (rIxT K) from ix_tup) (pe_ix (show IxR _ (rIxT K) from ix_tup) (pv 3) (pv 7) (fun _ _ => rfl)) pe_int (fun _ _ => rfl)) (pa_cons (pv 7) pa_nil))))) pa_nil))) (pg_tup rfl (pgs_cons (pg_name (i := 5) S.nd rfl (Or.inl rfl)) (pgs_cons (pg_name (i := 6) S.nd rfl (Or.inl rfl)) pgs_nil)))
      (pss_cons (ps_set (i := 8) S.nd rfl (Or.inl rfl) (pe_op op_add (pe_op op_mul (pe_dget (hu_of hr) (pv 0) pe_str (fun _ _ => rfl)) (pv 2)) (pv 5)))
      (pss_cons (ps_expr (pe_fn D__law_leave (hr.mono (by decide)) passLB rfl (pa_cons (pv 0) (pa_cons (pv 8) pa_nil))))
      (pss_cons (ps_set (i := 9) S.nd rfl (Or.inl rfl) (pe_fn D__law_choice (hr.mono (by decide)) passLB rfl (pa_cons (pv 0) pa_nil)))
      (pss_cons (ps_if (pt_cmpR op_isN (pv 9) pe_non (nomark _)) (pss_one (ps_ret (pe_tup (pa_cons (pe_dget (hu_of hr) (pv 0) pe_str (fun _ _ => rfl)) (pa_cons (pv 6) pa_nil))))) pss_nil)
      (pss_cons (ps_dput (hu_of hr) (pe_dget (hu_of hr) (pv 0) pe_str (fun _ _ => rfl)) (pv 9) (pe_tup (pa_cons (pe_op op_add (pv 8) (pe_ix ix_tup (pe_ix ix_tup (pv 3) (pv 6) (fun _ _ => rfl)) pe_int (fun _ _ => rfl))) (pa_cons (pe_tup (pa_cons (pv 8) (pa_cons (pv 6) pa_nil))) pa_nil))) rfl)
      (pss_cons (ps_dput (hu_of hr) (pe_dget (hu_of hr) (pv 0) pe_str (fun _ _ => rfl)) (pv 9) pe_bl rfl)
      (pss_one (ps_expr (pe_bm PySem.F.plainAttrs_list PySem.F.slot_list_append PySem.F.type_list_append mt_append (pv 4) (pa_cons (pe_tup (pa_cons (pe_dget (hu_of hr) (pv 0) pe_str (fun _ _ => rfl)) (pa_cons (pv 6) (pa_cons (pv 9) pa_nil)))) pa_nil)))))))))))
      (pss_cons (ps_dput (hu_of hr) (pv 0) pe_str (pe_op op_add (pe_dget (hu_of hr) (pv 0) pe_str (fun _ _ => rfl)) pe_int) rfl)
      (pss_cons (ps_expr (pe_fn D__law_leave (hr.mono (by decide)) passLB rfl (pa_cons (pv 0) (pa_cons (pe_op op_sub (pe_op op_mul (pe_dget (hu_of hr) (pv 0) pe_str (fun _ _ => rfl)) (pv 2)) pe_int) pa_nil))))
      (pss_one (ps_ret (pv 4)))))))), ?_⟩
    have hn := htab.n
    have hh1 := htab.h1
    have hh2 := htab.h2
    have hsz : (2000000 : Nat) < sizeLine := by decide
    obtain ⟨ta, tb, xs, rfl, hta, htb, hx⟩ := tp_table ht
    have hxl := tpAll_mlen hx
    refine ⟨_, rfl, ta, _, rfl, SqT.of hta, rfl, _, _, rfl, _, _, rfl, rfl, ?_⟩
    refine ⟨(show (0:Nat) ≤ sizeLine from by decide), fun L hL => ?_⟩
    have kL : Kp [] H (upd H L (.lst [])) := Kp.new hL
    have eL : (upd H L (.lst [])) L = some (.lst []) := upd_same
    have hLf : L ∉ a.foot := hD.foot_ne hL
    generalize upd H L (.lst []) = H1 at kL eL ⊢
    -- sorted([..])
    refine ⟨_, rfl, tb, xs, rfl, .inr (SqT.of (kL.tup _ _ htb)), (xs.length : Nat), rfl, by omega, by omega, fun W hW => lc_data (walk_range (lo := 0) (n := ((xs.length : Nat) : Int).toNat)) (fun i => match D.ss[i]? with | some s => [shD (s.1, (i : Int))] | none => []) hW (fun _ _ => trivial) ?_ ?_⟩
    · rintro i x H4 H5 hi L4 ⟨rfl, rfl⟩
      rw [Int.toNat_natCast] at hi
      obtain ⟨x0, ex⟩ : ∃ x0, xs[i]? = some x0 := ⟨_, List.getElem?_eq_getElem hi⟩
      have kk := kL.trans L4.kp
      obtain ⟨s1, es1, ts1⟩ := tpAll_at (hx.kp kk) ex
      obtain ⟨c1, rfl, hc1⟩ := tp_ship ts1
      refine ⟨wipe1 (by decide), ?_⟩
      refine ⟨_, rfl, _, rfl, tb, xs, _, _, rfl, rfl, SqT.of (kk.tup _ _ htb), (show atI xs (0 + (i : Int)) = some (.ref c1) by rw [Int.zero_add]; exact atI_nat ex), c1, _, _, _, rfl, rfl, SqT.of hc1, rfl, _, rfl, (show (2:Nat) ≤ sizeLine from by decide), fun t ht => ?_⟩
      exact L4.fin (d := shD (s1.1, (i : Int))) (by rw [Int.toNat_natCast]; omega) hW (by rw [Int.toNat_natCast]; exact hi) (Kp.new ht) (by rw [es1]) (.tup upd_same (.cons (.int _) (.cons (show Tp _ (.int (0 + (i : Int))) (.int (i : Int)) by rw [Int.zero_add]; exact .int _) .nil)))
    · intro H4 acc k4 hacc _ hT
      rw [Int.toNat_natCast, hxl, flatMap_idx D.ss _ (fun k s => shD (s.1, (k : Int))) (fun i x e => by rw [e])] at hT
      rw [show (D.ss.mapIdx fun k s => shD (s.1, (k : Int))) = (D.ss.mapIdx fun k s => (s.1, (k : Int))).map shD from map_mapIdx' _ _ _] at hT
      refine ⟨W, acc, _, rfl, SqL.of hacc, hT, shD_alike, fun b => ⟨_, _, rfl⟩, shD_depth, fun ys p hys hyl hp => ?_⟩
      have hys0 : TpAll H4 ys ((ordM D.ss).map shD) := hys
      have hyl2 : ys.length = D.ss.length := by rw [hyl, List.length_mapIdx]
      have kp1 : Kp [] H4 (upd H4 p (.lst ys)) := Kp.new hp
      have ep : (upd H4 p (.lst ys)) p = some (.lst ys) := upd_same
      have hys6 := hys0.kp kp1
      generalize upd H4 p (.lst ys) = H5 at kp1 ep hys6 ⊢
      have k15 := k4.trans kp1
      have k5 := kL.trans k15
      have D5 := hD.kp k5 (by simp)
      have eL5 := k15.keep _ _ eL (by simp)
      have hpf : p ∉ L :: a.foot := fun z => by
        rcases List.mem_cons.mp z with z | z
        · rw [z, k4.keep _ _ eL (by simp)] at hp; cases hp
        · exact hD.live p z ((kL.trans k4).free hp)
      refine ⟨p, rfl, ⟨ys, SqL.of ep⟩, for_it (walk_list (K := K) (a := p) (xs := ys)) (fun i σ G => ∃ (o5 o6 o7 o8 o9 : Option V) (acc : List V) (cs : List Cl3) (Di : Dk), σ = [some (.ref a.d), some (.ref ta), some (.int D.h), some (.ref tb), some (.ref L), o5, o6, o7, o8, o9] ∧ runM D ((arrL D.ss).take i) = some (cs, Di) ∧ G L = some (.lst acc) ∧ acc.length = i ∧ Kp (L :: a.foot) H5 G ∧ LDAt (N + i) G a Di)
        ⟨none, none, none, none, none, [], [], D, rfl, rfl, eL5, rfl, Kp.refl _, D5⟩ ?_ ?_ ?_⟩
      · rintro i σ G hi ⟨o5, o6, o7, o8, o9, acc, cs, Di, _, _, _, _, kG, _⟩
        exact SqL.of (kG.keep _ _ ep hpf)
      · rintro i x σ G1 G2 hi ⟨o5, o6, o7, o8, o9, acc, cs, Di, rfl, hri, hacc, hal, kG, DG⟩ ⟨rfl, hx7⟩
        rw [hyl2] at hi
        obtain ⟨e, es, ty⟩ := tpAll_at (hys6.kp kG) hx7
        obtain ⟨c, rfl, hc⟩ := tp_ship ty
        obtain ⟨k, s, hks, rfl⟩ := ordM_mem2 (List.mem_of_getElem? es)
        have esa : (arrL D.ss)[i]? = some (k : Int) := by rw [arrL, List.getElem?_map, es]; rfl
        obtain ⟨ok4, st4, _⟩ := run_ok hok (arrL D.ss) (by rw [arrL_len]; omega) hri
        have hr1 := run_take D (arrL D.ss) esa
        rw [hri] at hr1
        obtain ⟨⟨pv', skvs', ukvs', fl', g1, g2, g4, g5, g6, gfl, glen, g7, g8⟩, su, n1, n3⟩ := id DG
        refine ⟨c, _, rfl, SqT.of hc, rfl, _, _, rfl, _, _, rfl, rfl, ?_⟩
        refine ⟨_, rfl, a.d, _, rfl, ld_day g1, _, rfl, _, _, rfl, rfl, .inr ⟨by omega, by omega⟩, _, rfl, _, _, rfl, rfl, ?_⟩
        rw [st4.day]
        refine ⟨_, rfl, _, rfl, a, Di, _, _, rfl, DG, ok4.nd, by omega, fun G3 k3 DG3 => ?_⟩
        refine ⟨_, rfl, a, _, _, rfl, DG3, fun G4 k4' => ⟨fun b D3 e5 DG4 => ?_, fun e5 DG4 => ?_⟩⟩
        · refine ⟨_, rfl, rfl, _, rfl, ?_⟩
          refine iteF' (decide_eq_false (fun z => nomatch z)) ?_
          have hks' : Di.ss[k]? = some s := by rw [st4.ss]; exact hks
          have e5' : chooseM (leaveM Di (Di.day * Di.h + s.1)) = some (b, D3) := by rw [st4.h, st4.day]; exact e5
          have een : enterM Di k 0 = some (b, { D3 with stays := putS D3.stays (b, Di.day * Di.h + s.1 + s.2 + 0, Di.day * Di.h + s.1, (k : Int)), used := putN D3.used b }) := by
            unfold enterM
            rw [hks']
            simp only
            rw [e5']
          have hr1 : runM D ((arrL D.ss).take (i + 1)) = some (cs ++ [(Di.day, (k : Int), b)], { D3 with stays := putS D3.stays (b, Di.day * Di.h + s.1 + s.2 + 0, Di.day * Di.h + s.1, (k : Int)), used := putN D3.used b }) := by
            rw [hr1]
            show ((enterM Di ((k : Int)).toNat 0).map _) = _
            rw [show (k : Int).toNat = k from rfl, een]
            rfl
          have k04 := (kG.trans ((k3.trans k4').mono (by simp +contextual)))
          have htb4 := k04.tup _ _ (k5.tup _ _ htb)
          obtain ⟨x0, ex⟩ : ∃ x0, xs[k]? = some x0 := ⟨_, List.getElem?_eq_getElem (by rw [hxl]; exact (List.getElem?_eq_some_iff.mp hks).1)⟩
          obtain ⟨s1, es1, ts1⟩ := tpAll_at ((hx.kp k5).kp k04) ex
          rw [hks] at es1
          cases es1
          obtain ⟨c1, rfl, hc1⟩ := tp_ship ts1
          refine ⟨_, rfl, _, rfl, _, rfl, tb, xs, _, _, rfl, rfl, SqT.of htb4, atI_nat ex, c1, _, _, _, rfl, rfl, SqT.of hc1, rfl, _, _, rfl, rfl, _, rfl, _, rfl, (show (2:Nat) ≤ sizeLine from by decide), fun t1 ht1 => ⟨(show (2:Nat) ≤ sizeLine from by decide), fun t2 ht2 => ?_⟩⟩
          generalize hG : upd (upd G4 t1 _) t2 _ = G5
          have kt : Kp [] G4 G5 := by rw [← hG]; exact (Kp.new ht1).trans (Kp.new ht2)
          have tt : Tp G5 (.ref t2) (stD (b, D.day * D.h + s.1 + s.2 + 0, D.day * D.h + s.1, (k : Int))) := by
            rw [← hG, Int.add_zero]
            exact .tup upd_same (.cons (.int _) (.cons (.tup ((TK.new ht2) _ _ upd_same) (.cons (.int _) (.cons (.int _) .nil))) .nil))
          obtain ⟨pv5, skvs5, j1, j4, jl, G6, hG6, k56, ukvs6, j1', j7', jl', k67, DG7⟩ := (DG4.kp kt (by simp)).enter tt
          have dday : D3.day = D.day := by
            obtain ⟨_, _, _, _, _, h6, _⟩ := chooseM_stays e5
            rw [h6]
            exact st4.day
          rw [dday] at j1 j1'
          refine ⟨_, rfl, a.d, _, rfl, ld_held j1, _, rfl, a.hd, _, rfl, DPut.k (k := .inl b) j4 (by omega), ?_⟩
          have e6 : upd G5 a.hd (.dK (putK skvs5 (Sum.inl b) (V.ref t2))) = G6 := hG6.symm
          rw [e6]
          have hu : D3.used.length ≤ 1000000 := by
            obtain ⟨_, h2, _⟩ := chooseM_stays e5
            rw [h2]
            have : Di.used.length ≤ N + i := ok4.us
            show Di.used.length ≤ _
            omega
          refine ⟨_, rfl, a.d, _, rfl, ld_used j1', _, rfl, a.ud, _, rfl, DPut.k (k := .inl b) j7' (by omega), ?_⟩
          generalize hG7 : upd G6 a.ud _ = G7
          have e7 : upd G6 a.ud (.dK (putK ukvs6 (Sum.inl b) (.bl true))) = G7 := hG7
          rw [e7] at k67 DG7
          have k17 : Kp a.foot G2 G7 := ((k3.trans k4').trans (kt.mono (by simp))).trans (k56.trans k67)
          have hacc7 := k17.keep _ _ hacc hLf
          obtain ⟨⟨pv8, skvs8, ukvs8, fl8, m1, m2, m4, m5, m6, mfl, mlen, m7, m8⟩, _⟩ := id DG7
          refine ⟨_, rfl, .inl ⟨rfl, _, SqL.of hacc7⟩, _, rfl, a.d, _, rfl, ld_day m1, _, rfl, _, rfl, (show (3:Nat) ≤ sizeLine from by decide), fun t ht => ?_⟩
          generalize hG8 : upd G7 t _ = G8
          have kt8 : Kp [] G7 G8 := by rw [← hG8]; exact Kp.new ht
          have hacc8 := kt8.keep _ _ hacc7 (by simp)
          refine ⟨L, acc, _, rfl, rfl, hacc8, by omega, ?_⟩
          have kw : Kp [L] G8 (upd G8 L (.lst (acc ++ [.ref t]))) := (Kp.refl _).put (by simp) hacc8 lst_nt
          refine ⟨_, _, _, _, _, acc ++ [.ref t], _, _, rfl, hr1, upd_same, by rw [List.length_append, hal]; rfl, ?_, ?_⟩
          · exact kG.trans ((k17.mono (by simp +contextual)).trans ((kt8.mono (by simp)).trans (kw.mono (by simp))))
          · have := (DG7.kp kt8 (by simp)).kp kw (fun x hx z => hLf (mem_one z hx))
            rw [st4.h, st4.day]
            exact this
        · refine ⟨_, rfl, rfl, _, rfl, ?_⟩
          refine iteT' (decide_eq_true rfl) ?_
          obtain ⟨⟨pv9, skvs9, ukvs9, fl9, m1, _⟩, _⟩ := id DG4
          have hks' : Di.ss[k]? = some s := by rw [st4.ss]; exact hks
          have e5' : chooseM (leaveM Di (Di.day * Di.h + s.1)) = none := by rw [st4.h, st4.day]; exact e5
          have een : enterM Di ((k : Int)).toNat 0 = none := by
            rw [show (k : Int).toNat = k from rfl]
            unfold enterM
            rw [hks']
            simp only
            rw [e5']
          refine ⟨_, rfl, a.d, _, rfl, ld_day m1, _, rfl, (show (2:Nat) ≤ sizeLine from by decide), fun t ht => ?_⟩
          have kk : Kp (L :: a.foot) H5 G4 := kG.trans ((k3.trans k4').mono (by simp +contextual))
          have tf : t ∉ L :: a.foot := fun z => by
            rcases List.mem_cons.mp z with z | z
            · rw [z, (k3.trans k4').keep _ _ hacc hLf] at ht
              cases ht
            · exact DG4.foot_ne ht z
          have kall : Kp a.foot H (upd G4 t (.tup [.int D.day, .int (k : Int)])) := ((k5.mono (S' := L :: a.foot) (by simp)).trans (kk.trans (Kp.new ht))).less (fun b hb => by
            rcases List.mem_cons.mp hb with rfl | hb
            · exact .inr hL
            · exact .inl hb)
          have ed : (leaveM Di (D.day * D.h + s.1)).day = D.day := st4.day
          rw [ed]
          exact q2 (k : Int) t _ ⟨i, cs, Di, hri, esa, een⟩ (k5.free (kk.freeS ht tf)) (fun z => tf (List.mem_cons_of_mem _ z)) kall upd_same
      · rintro σ G1 ⟨o5, o6, o7, o8, o9, acc, cs', Di, rfl, hri, hacc, hal, kG, DG⟩
        rw [show ys.length = (arrL D.ss).length by rw [arrL_len, hyl2], List.take_length] at hri
        obtain ⟨ok4, st4, _⟩ := run_ok hok (arrL D.ss) (Nat.le_refl _) (by rw [List.take_length]; exact hri)
        obtain ⟨⟨pv', skvs', ukvs', fl', g1, g2, g4, g5, g6, gfl, glen, g7, g8⟩, su, n1, n3⟩ := id DG
        refine ⟨_, rfl, a.d, _, rfl, ld_day g1, _, _, rfl, rfl, _, rfl, a.d, _, rfl, ld_putday g1 (Di.day + 1), ?_⟩
        obtain ⟨kd, Dd⟩ := DG.setDay g1 (Di.day + 1)
        have g1' : (upd G1 a.d (.dK (ldF pv' a (Di.day + 1)))) a.d = some (.dK (ldF pv' a (Di.day + 1))) := upd_same
        generalize upd G1 a.d (.dK (ldF pv' a (Di.day + 1))) = G2 at kd Dd g1' ⊢
        refine ⟨_, rfl, _, rfl, a.d, _, rfl, ld_day g1', _, rfl, _, _, rfl, rfl, .inr ⟨by omega, by omega⟩, _, _, rfl, rfl, a, { Di with day := Di.day + 1 }, _, _, rfl, Dd, ok4.nd, by omega, fun G3 k3 DG3 => ?_⟩
        refine ⟨_, rfl, ?_⟩
        have kall : Kp a.foot H G3 := ((k5.mono (S' := L :: a.foot) (by simp)).trans (kG.trans ((kd.trans k3).mono (by simp +contextual)))).less (fun b hb => by
          rcases List.mem_cons.mp hb with rfl | hb
          · exact .inr hL
          · exact .inl hb)
        have hacc3 := (kd.trans k3).keep _ _ hacc hLf
        refine q (endM Di) cs' L acc G3 (by unfold dayM; rw [hri]; rfl) hL kall hacc3 ?_
        have hh : Di.h = D.h := st4.h
        have : LDAt (N + ys.length) G3 a (leaveM { Di with day := Di.day + 1 } ((Di.day + 1) * D.h - 1)) := DG3
        rw [← hh] at this
        exact this.mono (by omega)
end
end Ba

set_option maxHeartbeats 400000
namespace Ba
open PySem PySem.Spec PyProof.Rows L2
mutual
def wideD : PyData → Nat
  | .list ds => max ds.length (wideAll ds)
  | .tuple ds => max ds.length (wideAll ds)
  | _ => 0
def wideAll : List PyData → Nat
  | [] => 0
  | d :: ds => max (wideD d) (wideAll ds)
end
theorem wide_mem : ∀ {ds : List PyData} {d : PyData}, d ∈ ds → wideD d ≤ wideAll ds
  | [], _, h => by simp at h
  | e :: ds, d, h => by
    show wideD d ≤ max (wideD e) (wideAll ds)
    rcases List.mem_cons.mp h with rfl | h
    · omega
    · have := wide_mem h
      omega
theorem depth_mem : ∀ {ds : List PyData} {d : PyData}, d ∈ ds → d.depth ≤ PyData.depthAll ds
  | [], _, h => by simp at h
  | e :: ds, d, h => by
    show d.depth ≤ max e.depth (PyData.depthAll ds)
    rcases List.mem_cons.mp h with rfl | h
    · omega
    · have := depth_mem h
      omega
theorem plain_mem : ∀ {ds : List PyData} {d : PyData}, PyData.plainAll ds = true → d ∈ ds → d.plain = true
  | [], _, _, h => by simp at h
  | e :: ds, d, hp, h => by
    have hp : (e.plain && PyData.plainAll ds) = true := hp
    rw [Bool.and_eq_true] at hp
    rcases List.mem_cons.mp h with rfl | h
    · exact hp.1
    · exact plain_mem hp.2 h
mutual
theorem eqv_refl : ∀ d : PyData, d.plain = true → PyData.eqv d d = true
  | .none, _ => rfl
  | .bool b, _ => by cases b <;> rfl
  | .int i, _ => by show (i == i) = true; simp
  | .str s, _ => by show (s == s) = true; simp
  | .list ds, h => eqvAll_refl ds h
  | .tuple ds, h => eqvAll_refl ds h
  | .dict _, h => by cases h
theorem eqvAll_refl : ∀ ds : List PyData, PyData.plainAll ds = true → PyData.eqvAll ds ds = true
  | [], _ => rfl
  | d :: ds, h => by
    have h : (d.plain && PyData.plainAll ds) = true := h
    rw [Bool.and_eq_true] at h
    show (PyData.eqv d d && PyData.eqvAll ds ds) = true
    rw [eqv_refl d h.1, eqvAll_refl ds h.2]
    rfl
end
section
variable {P : Program} {w : World} {K : PySem.W.Frag} {mg : Str → Option Value} {base : Heap} {f : Addr} {fd : FuncData}
theorem kitLT : kitB "list" "tuple" = some false := by decide +kernel
/-! ### alike through and through -/
abbrev spSame (K : PySem.W.Frag) (k : Nat) : Sp := Pr fun vs H Q _ => ∃ (x y : V) (d : PyData), vs = [x, y] ∧ Dp K H x d ∧ Dp K H y d ∧ d.plain = true ∧ d.depth < k ∧ k ≤ 20 ∧ wideD d ≤ 1000000 ∧ ∀ H', Kp [] H H' → Q (.bl true) H'
theorem kit_list : kitB "list" "list" = some true := by decide +kernel
theorem kitTL : kitB "tuple" "list" = some false := by decide +kernel
theorem kits (t : String) (b1 b2 : Bool) (h1 : kitB t "list" = some b1) (h2 : kitB t "tuple" = some b2) : PySem.W.kitAny K (.type t) [.type "list", .type "tuple"] = some (b1 || b2) := by
  refine kitAny_cons (kit_ty h1) (fun e => ?_) (fun e => by rw [e]; rfl)
  subst e
  refine kitAny_cons (kit_ty h2) (fun e => ?_) (fun e => by rw [e]; rfl)
  subst e
  exact kitAny_nil
theorem law_same0 (F : FunS K "_law_same" "_law_same" s__law_same [] [] f fd) (hm : mg "_law_same" = some (.ref f)) : DefOk P w K mg base "_law_same" 0 p__law_same [] (spSame K 0) :=
  ⟨f, fd, [], ⟨fun vs H Q E h => by obtain ⟨x, y, d, rfl, _⟩ := h; rfl, fun _ _ _ _ _ _ _ _ _ _ _ _ _ h => by obtain ⟨x, y, d, _, _, _, _, h, _⟩ := h; omega⟩, hm, F.kp, F.bindsN (fun _ _ _ _ _ _ us hl => match us, hl with | [_, _], _ => rfl), .nil⟩
end
end Ba

set_option maxHeartbeats 400000
namespace Ba
open PySem PySem.Spec PyProof.Rows L2
section
variable {P : Program} {w : World} {K : PySem.W.Frag} {mg : Str → Option Value} {base : Heap} {f : Addr} {fd : FuncData}
abbrev spLawDays : Sp := Pr fun vs H Q _ => ∃ (a : LA) (tv : V) (D D1 : Dk) (n N : Nat), vs = [.ref a.d, tv, .int (n : Int)] ∧ n ≤ 1000 ∧ LDAt N H a D ∧ DkOk N D ∧ N ≤ 700000 ∧ Tp H tv (tbD D.h D.ss) ∧ TabOk D.h D.ss ∧ daysM n D = some D1 ∧
  ∀ H', Kp a.foot H H' → LDAt (N + n * 24) H' a D1 → Q (.bl true) H'
theorem ok_law_days (B : Bi mg) (D__law_day : DefOk P w K mg base "_law_day" 3 p__law_day [] spLawDay) (F : FunS K "_law_days" "_law_days" s__law_days [] [] f fd) (hm : mg "_law_days" = some (.ref f)) :
    DefOk P w K mg base "_law_days" 4 p__law_days [] spLawDays := by
  have S := sc__law_days
  refine defOk F hm S (fun _ _ _ _ _ _ us hl => match us, hl with | [_, _, _], _ => rfl) (fun vs H Q E h => ?_) (fun cdv A outer s H vs Q E hr h => ?_)
  · obtain ⟨a, tv, D, D1, n, N, rfl, _⟩ := h
    rfl
  · obtain ⟨a, tv, D, D1, n, N, rfl, hn1, hD, hok, hN, ht, htab, hdays, q⟩ := h
    refine ⟨_, (pss_cons (ps_for (passes_of rfl) rfl (pi_range1 (by rfl) B.range (pa_cons (pv 2) pa_nil)) (pg_name (i := 3) S.nd rfl (Or.inl rfl))
      (pss_one (ps_if (pt_val (pe_callB call_isA (by rfl) B.isinstance (by decide +kernel) (pa_cons (pe_fn D__law_day (hr.mono (by decide)) passLB rfl (pa_cons (pv 0) (pa_cons (pv 1) pa_nil))) (pa_cons (pe_bltn (v := .ty "tuple") (by rfl) B.tuple (by decide +kernel) rfl) pa_nil)))) (pss_one (ps_ret pe_bl)) pss_nil)))
      (pss_one (ps_ret pe_bl))), ?_⟩
    have hn := htab.n
    refine ⟨_, rfl, n, rfl, by omega, by omega, for_it (walk_range (lo := 0) (n := (n : Int).toNat)) (fun j σ G => ∃ o Dj, σ = [some (.ref a.d), some tv, some (.int n), o] ∧ daysM j D = some Dj ∧ Kp a.foot H G ∧ LDAt (N + j * 24) G a Dj) ⟨none, D, rfl, rfl, Kp.refl _, by simpa using hD⟩ (fun _ _ _ _ _ => trivial) ?_ ?_⟩
    · rintro j x σ H2 H3 hj ⟨o, Dj, rfl, hdj, k2, D2⟩ ⟨rfl, rfl⟩
      rw [Int.toNat_natCast] at hj
      obtain ⟨ok2, sc2, _⟩ := daysM_ok hok hdj
      obtain ⟨Dj1, hdj1⟩ := daysM_le hdays (show j + 1 ≤ n from hj)
      obtain ⟨Dj', cs, hd1, hd2⟩ := daysM_pre hdj1
      rw [hdj] at hd1
      cases hd1
      have hb : j * D.ss.length ≤ j * 24 := Nat.mul_le_mul (Nat.le_refl _) hn
      refine ⟨_, rfl, _, rfl, a, tv, Dj, _, rfl, D2, ok2.mono (by omega), by omega, by rw [sc2.h, sc2.ss]; exact ht.kp k2, ⟨by rw [sc2.h]; exact htab.h1, by rw [sc2.h]; exact htab.h2, by rw [sc2.ss]; exact htab.n⟩, fun DjX csX p xs H4 hdX _ k4 hp4 D4 => ?_, fun e p H4 hl _ _ _ _ => absurd (lack_day hl) (by rw [hd2]; exact fun z => nomatch z)⟩
      rw [hd2] at hdX
      cases hdX
      refine ⟨.ref p, "list", "tuple", false, rfl, sqL_ty (SqL.of hp4), kitLT, _, rfl, ?_⟩
      refine ⟨_, _, rfl, hdj1, k2.trans k4, ?_⟩
      rw [Nat.succ_mul, ← Nat.add_assoc]
      exact D4
    · rintro σ H2 ⟨o, Dj, rfl, hdj, k2, D2⟩
      rw [Int.toNat_natCast] at hdj D2
      rw [hdays] at hdj
      cases hdj
      exact q H2 k2 D2
end
end Ba

set_option maxHeartbeats 400000
namespace Ba
open PySem PySem.Spec PyProof.Rows L2
section
variable {P : Program} {w : World} {K : PySem.W.Frag} {mg : Str → Option Value} {base : Heap} {f : Addr} {fd : FuncData}
theorem dpAll_get {H : Hp} : ∀ {vs : List V} {ds : List PyData} {i : Nat} {d : PyData}, DpAll K H vs ds → ds[i]? = some d → ∃ v, vs[i]? = some v ∧ Dp K H v d
  | _, _, _, _, .nil, e => by simp at e
  | _, _, 0, _, .cons h _, e => by simp at e; subst e; exact ⟨_, rfl, h⟩
  | _, _, i + 1, d, .cons _ t, e => by
    obtain ⟨v, h1, h2⟩ := dpAll_get (i := i) t (by simpa using e)
    exact ⟨v, by simpa using h1, h2⟩
/-- a list or a tuple of data -/
theorem dp_seq {H : Hp} {x : V} {ds : List PyData} (b : Bool) (h : Dp K H x (if b = true then .list ds else .tuple ds)) : ∃ a xs, x = .ref a ∧ (SqL K H a xs ∨ SqT K H a xs) ∧ DpAll K H xs ds := by
  cases b with
  | true =>
    cases h with
    | lst h1 h2 => exact ⟨_, _, rfl, .inl h1, h2⟩
  | false =>
    cases h with
    | tup h1 h2 => exact ⟨_, _, rfl, .inr h1, h2⟩
theorem seq_ext {H H' : Hp} {a : Addr} {xs : List V} (k : Kp [] H H') (h : SqL K H a xs ∨ SqT K H a xs) : SqL K H' a xs ∨ SqT K H' a xs := by
  rcases h with h | h
  · exact .inl (sqL_kp k (by simp) h)
  · exact .inr (sqT_kp k h)
theorem ok_law_same {k : Nat} (B : Bi mg) (D__law_same : DefOk P w K mg base "_law_same" k p__law_same [] (spSame K k)) (F : FunS K "_law_same" "_law_same" s__law_same [] [] f fd) (hm : mg "_law_same" = some (.ref f)) :
    DefOk P w K mg base "_law_same" (k + 1) p__law_same [] (spSame K (k + 1)) := by
  have S := sc__law_same
  refine defOk F hm S (fun _ _ _ _ _ _ us hl => match us, hl with | [_, _], _ => rfl) (fun vs H Q E h => ?_) (fun cdv A outer s H vs Q E hr h => ?_)
  · obtain ⟨x, y, d, rfl, _⟩ := h
    rfl
  · obtain ⟨x, y, d, rfl, hx, hy, hp, hdep, hk, hwd, q⟩ := h
    refine ⟨_, (pss_cons (ps_if (pt_val (pe_callB call_isiT (by rfl) B.isinstance (by decide +kernel) (pa_cons (pv 1) (pa_cons (pe_tup (pa_cons (pe_bltn (v := .ty "list") (by rfl) B.list (by decide +kernel) rfl) (pa_cons (pe_bltn (v := .ty "tuple") (by rfl) B.tuple (by decide +kernel) rfl) pa_nil))) pa_nil)))) (pss_cons (ps_if (PW.pt (pw_or (pt_cmpR op_ne (pe_callB call_isA (by rfl) B.isinstance (by decide +kernel) (pa_cons (pv 0) (pa_cons (pe_bltn (v := .ty "list") (by rfl) B.list (by decide +kernel) rfl) pa_nil))) (pe_callB call_isA (by rfl) B.isinstance (by decide +kernel) (pa_cons (pv 1) (pa_cons (pe_bltn (v := .ty "list") (by rfl) B.list (by decide +kernel) rfl) pa_nil))) (nomark _)) (pw_or1 (pt_cmpR op_ne (pe_callB call_isA (by rfl) B.isinstance (by decide +kernel) (pa_cons (pv 0) (pa_cons (pe_bltn (v := .ty "tuple") (by rfl) B.tuple (by decide +kernel) rfl) pa_nil))) (pe_callB call_isA (by rfl) B.isinstance (by decide +kernel) (pa_cons (pv 1) (pa_cons (pe_bltn (v := .ty "tuple") (by rfl) B.tuple (by decide +kernel) rfl) pa_nil))) (nomark _))))) (pss_one (ps_ret pe_bl)) pss_nil)
      (pss_one (ps_ret (pe_and (pe_cmpR op_eq (pe_callB call_len_seq (by rfl) B.len (by decide +kernel) (pa_cons (pv 0) pa_nil)) (pe_callB call_len_seq (by rfl) B.len (by decide +kernel) (pa_cons (pv 1) pa_nil)) (nomark _)) (pe_one (pe_callB (cr_all rfl) (by rfl) B.all (by decide +kernel) (pa_cons (pe_lc (own := [("_law_k", 2)]) (g := (gName 2)) (tt := tYes) (by rfl) S.nd (pi_range1 (by rfl) B.range (pa_cons (pe_callB call_len_seq (by rfl) B.len (by decide +kernel) (pa_cons (pv 1) pa_nil)) pa_nil)) (blkOk_by (own := [("_law_k", 2)]) (N := n__law_same) (sc := defScope s__law_same) (by decide +kernel)) (fun _ _ _ _ _ => (pg_name (i := 2) S.nd rfl (Or.inl rfl))) (fun _ _ _ _ _ => pts_nil) (fun _ _ _ _ _ => (pe_fn D__law_same (hr.mono (Nat.le_refl _)) passLB rfl (pa_cons (pe_ix (show IxR _ (rIxA K) from ix_any) (pv 0) (pv 2) (fun _ _ => rfl)) (pa_cons (pe_ix (show IxR _ (rIxA K) from ix_any) (pv 1) (pv 2) (fun _ _ => rfl)) pa_nil))))) pa_nil))))))) pss_nil)
      (pss_one (ps_ret (pe_and (pe_cmpR op_eq (pe_callB call_isA (by rfl) B.isinstance (by decide +kernel) (pa_cons (pv 0) (pa_cons (pe_bltn (v := .ty "bool") (by rfl) B.bool (by decide +kernel) rfl) pa_nil))) (pe_callB call_isA (by rfl) B.isinstance (by decide +kernel) (pa_cons (pv 1) (pa_cons (pe_bltn (v := .ty "bool") (by rfl) B.bool (by decide +kernel) rfl) pa_nil))) (nomark _)) (pe_one (pe_cmpR (op_eqP hr.units) (pv 0) (pv 1) (nomark _))))))), ?_⟩
    by_cases hseq : ∃ b ds, d = if b = true then PyData.list ds else .tuple ds
    · obtain ⟨b, ds, rfl⟩ := hseq
      have hb1 : kitB (tyN (if b = true then PyData.list ds else .tuple ds)) "list" = some b := by
        cases b
        · exact kitTL
        · exact kit_list
      have hb2 : kitB (tyN (if b = true then PyData.list ds else .tuple ds)) "tuple" = some (!b) := by
        cases b
        · exact isTup_yes
        · exact kitLT
      have hpa : PyData.plainAll ds = true := by
        cases b <;> exact hp
      have hde : PyData.depthAll ds < k := by
        have : (if b = true then PyData.list ds else .tuple ds).depth = PyData.depthAll ds + 1 := by cases b <;> rfl
        omega
      have hwl : ds.length ≤ 1000000 ∧ wideAll ds ≤ 1000000 := by
        have : wideD (if b = true then PyData.list ds else .tuple ds) = max ds.length (wideAll ds) := by cases b <;> simp [wideD]
        omega
      refine ⟨_, rfl, (show (2:Nat) ≤ sizeLine from by decide), fun p1 hp1 => ?_⟩
      have k1 : Kp [] H (upd H p1 (.tup [.ty "list", .ty "tuple"])) := Kp.new hp1
      have e1 : (upd H p1 (.tup [.ty "list", .ty "tuple"])) p1 = some (.tup [.ty "list", .ty "tuple"]) := upd_same
      generalize upd H p1 (.tup [.ty "list", .ty "tuple"]) = H1 at k1 e1 ⊢
      have hx1 := Dp.ext k1 _ _ hx
      have hy1 := Dp.ext k1 _ _ hy
      refine ⟨y, p1, _, _, _, _, rfl, e1, .cons (.ty _) (.cons (.ty _) .nil), dp_ty hy1, kits _ _ _ hb1 hb2, _, rfl, ?_⟩
      refine iteT' (by cases b <;> rfl) ?_
      refine ⟨_, rfl, x, _, "list", b, rfl, dp_ty hx1, hb1, _, rfl, y, _, "list", b, rfl, dp_ty hy1, hb1, rfl, _, rfl, ?_⟩
      refine iteF' (by rw [decide_eq_true rfl]; rfl) ?_
      refine ⟨_, rfl, x, _, "tuple", !b, rfl, dp_ty hx1, hb2, _, rfl, y, _, "tuple", !b, rfl, dp_ty hy1, hb2, rfl, _, rfl, ?_⟩
      refine iteF' (by rw [decide_eq_true rfl]; rfl) ?_
      obtain ⟨xa, xs, rfl, sx, ax⟩ := dp_seq b hx1
      obtain ⟨ya, ys, rfl, sy, ay⟩ := dp_seq b hy1
      have hxl := dpAll_len ax
      have hyl := dpAll_len ay
      refine ⟨_, rfl, xa, xs, rfl, sx, _, rfl, ya, ys, rfl, sy, rfl, ?_⟩
      rw [hxl, hyl]
      refine ⟨_, rfl, ?_⟩
      refine iteT' (decide_eq_true rfl) ?_
      refine ⟨_, rfl, ya, ys, rfl, sy, (ys.length : Nat), rfl, by omega, by omega, fun L hL => lc_data (walk_range (lo := 0) (n := ((ys.length : Nat) : Int).toNat)) (fun i => if i < ds.length then [.bool true] else []) hL (fun _ _ => trivial) ?_ ?_⟩
      · rintro i z H4 H5 hi L4 ⟨rfl, rfl⟩
        rw [Int.toNat_natCast, hyl] at hi
        obtain ⟨d0, ed⟩ : ∃ d0, ds[i]? = some d0 := ⟨_, List.getElem?_eq_getElem hi⟩
        obtain ⟨x0, ex, hx0⟩ := dpAll_get ax ed
        obtain ⟨y0, ey, hy0⟩ := dpAll_get ay ed
        have hm0 := List.mem_of_getElem? ed
        refine ⟨wipe1 (by decide), ?_⟩
        refine ⟨_, rfl, _, rfl, xa, xs, _, _, rfl, rfl, seq_ext L4.kp sx, (show atI xs (0 + (i : Int)) = some x0 by rw [Int.zero_add]; exact atI_nat ex), _, rfl, _, rfl, ya, ys, _, _, rfl, rfl, seq_ext L4.kp sy, (show atI ys (0 + (i : Int)) = some y0 by rw [Int.zero_add]; exact atI_nat ey), ?_⟩
        have hdm := depth_mem hm0
        have hwm := wide_mem hm0
        refine ⟨x0, y0, d0, rfl, Dp.ext L4.kp _ _ hx0, Dp.ext L4.kp _ _ hy0, plain_mem hpa hm0, by omega, by omega, by omega, fun H6 k6 => ?_⟩
        exact L4.fin (d := .bool true) (by rw [Int.toNat_natCast]; omega) hL (by rw [Int.toNat_natCast, hyl]; exact hi) k6 (if_pos hi) (.bl _)
      · intro H4 acc k4 hacc _ hT
        rw [Int.toNat_natCast, hyl] at hT
        rw [flatMap_one ds _ (fun _ => PyData.bool true) (fun i x e => if_pos (List.getElem?_eq_some_iff.mp e).1)] at hT
        rw [show (ds.map fun _ => PyData.bool true) = (ds.map fun _ => true).map .bool by rw [List.map_map]; rfl] at hT
        rw [tpAll_bls hT] at hacc
        refine ⟨L, ds.map fun _ => true, rfl, SqL.of hacc, ?_⟩
        have q' := q H4 (k1.trans k4)
        have : (ds.map fun _ => true).all id = true := by
          rw [List.all_map, List.all_eq_true]
          intro _ _
          rfl
        rw [this]
        exact q'
    · have hnl : ∀ ds, d ≠ .list ds := fun ds e => hseq ⟨true, ds, e⟩
      have hnt : ∀ ds, d ≠ .tuple ds := fun ds e => hseq ⟨false, ds, e⟩
      obtain ⟨b, hb0, hb1, hb2⟩ : ∃ b, kitB (tyN d) "bool" = some b ∧ kitB (tyN d) "list" = some false ∧ kitB (tyN d) "tuple" = some false := by
        cases d with
        | none => exact ⟨false, by decide +kernel, by decide +kernel, by decide +kernel⟩
        | bool _ => exact ⟨true, (show kitB "bool" "bool" = some true by decide +kernel), (show kitB "bool" "list" = some false by decide +kernel), (show kitB "bool" "tuple" = some false by decide +kernel)⟩
        | int _ => exact ⟨false, (show kitB "int" "bool" = some false by decide +kernel), (show kitB "int" "list" = some false by decide +kernel), (show kitB "int" "tuple" = some false by decide +kernel)⟩
        | str _ => exact ⟨false, (show kitB "str" "bool" = some false by decide +kernel), (show kitB "str" "list" = some false by decide +kernel), (show kitB "str" "tuple" = some false by decide +kernel)⟩
        | list ds => exact absurd rfl (hnl ds)
        | tuple ds => exact absurd rfl (hnt ds)
        | dict _ => cases hx
      refine ⟨_, rfl, (show (2:Nat) ≤ sizeLine from by decide), fun p1 hp1 => ?_⟩
      have k1 : Kp [] H (upd H p1 (.tup [.ty "list", .ty "tuple"])) := Kp.new hp1
      have e1 : (upd H p1 (.tup [.ty "list", .ty "tuple"])) p1 = some (.tup [.ty "list", .ty "tuple"]) := upd_same
      generalize upd H p1 (.tup [.ty "list", .ty "tuple"]) = H1 at k1 e1 ⊢
      have hx1 := Dp.ext k1 _ _ hx
      have hy1 := Dp.ext k1 _ _ hy
      refine ⟨y, p1, _, _, _, _, rfl, e1, .cons (.ty _) (.cons (.ty _) .nil), dp_ty hy1, kits _ _ _ hb1 hb2, _, rfl, ?_⟩
      refine iteF' rfl ?_
      refine ⟨_, rfl, x, _, "bool", b, rfl, dp_ty hx1, hb0, _, rfl, y, _, "bool", b, rfl, dp_ty hy1, hb0, rfl, ?_⟩
      refine ⟨_, rfl, ?_⟩
      refine iteT' (decide_eq_true rfl) ?_
      refine ⟨_, rfl, _, rfl, d, d, hx1, hy1, hp, hp, by omega, ?_⟩
      rw [eqv_refl d hp]
      exact q H1 k1
end
end Ba

set_option maxHeartbeats 400000
namespace Ba
open PySem PySem.Spec PyProof.Rows L2
structure OpsOk (ops : List PyData) : Prop where
  p : PyData.plainAll ops = true
  d : PyData.depthAll ops ≤ 4
  w : wideAll ops ≤ 1000
  n : ops.length ≤ 100000
theorem occM_len (D : Dk) : (occM D).length = D.stays.length := by
  rw [occM, List.length_mergeSort, List.length_map]
theorem wide_pairs : ∀ l : List (Int × Int), wideAll (l.map shD) ≤ 2
  | [] => by simp [wideAll]
  | a :: l => by
    have := wide_pairs l
    have h2 : wideD (shD a) = 2 := by simp [shD, wideD, wideAll]
    show max (wideD (shD a)) (wideAll (l.map shD)) ≤ 2
    omega
def stD4 (day : Int) (n : Int) (oc : List (Int × Int)) (ops : List PyData) : PyData := .list [.int day, .int n, .list (oc.map shD), .list ops]
theorem stD4_ok {day n : Int} {oc : List (Int × Int)} {ops : List PyData} (o : OpsOk ops) (h : oc.length ≤ 1000000) : (stD4 day n oc ops).plain = true ∧ (stD4 day n oc ops).depth < 8 ∧ wideD (stD4 day n oc ops) ≤ 1000000 := by
  refine ⟨?_, ?_, ?_⟩
  · show (PyData.plain (.int day) && (PyData.plain (.int n) && (PyData.plainAll (oc.map shD) && (PyData.plainAll ops && true)))) = true
    rw [plain_pairs, o.p]
    rfl
  · have h1 := depth_pairs oc
    have h2 := o.d
    show max 0 (max 0 (max (PyData.depthAll (oc.map shD) + 1) (max (PyData.depthAll ops + 1) 0))) + 1 < 8
    omega
  · have h1 := wide_pairs oc
    have h2 := o.w
    have h3 := o.n
    show max 4 (max 0 (max 0 (max (max (oc.map shD).length (wideAll (oc.map shD))) (max (max ops.length (wideAll ops)) 0)))) ≤ 1000000
    rw [List.length_map]
    omega
end Ba

set_option maxHeartbeats 400000
namespace Ba
open PySem PySem.Spec PyProof.Rows L2
/-- what the plain law gives -/
structure MathOk : Prop where
  tab : ∀ {h most : Int} {ss : List (Int × Int)}, 1 ≤ h → h ≤ 1000 → most ≤ 24 → DrawT h most ss → isTableD (tbD h ss) = true
  pol : ∀ {h most : Int} {ss : List (Int × Int)} {pol : Pol}, 1 ≤ h → h ≤ 1000 → most ≤ 24 → DrawT h most ss → DrawP h ss pol → isPolicyD h ss (polD pol) = true ∧ PolOk pol
  room : ∀ {h most : Int} {ss : List (Int × Int)} {pol : Pol} {bs : List (Int × Int)}, 1 ≤ h → h ≤ 1000 → most ≤ 24 → DrawT h most ss → DrawP h ss pol → DrawS h pol bs → ∀ n, ∃ D, daysM n (dk0 h ss pol bs) = some D
theorem daysM_add (m n : Nat) (D : Dk) : daysM (m + n) D = (daysM m D).bind (daysM n) := by
  induction n with
  | zero =>
    show daysM m D = (daysM m D).bind fun D => some D
    cases daysM m D <;> rfl
  | succ n ih =>
    show (daysM (m + n) D).bind (fun D' => (dayM D').map (·.2)) = _
    rw [ih]
    cases daysM m D <;> rfl
theorem dk0_ok (h : Int) (ss : List (Int × Int)) (pol : Pol) {bs : List (Int × Int)} (nd : (bs.map (·.1)).Nodup) (hn : bs.length ≤ 1000) (hp : PolOk pol) : DkOk 2000 (dk0 h ss pol bs) := by
  refine ⟨?_, ?_, ?_⟩
  · show ((bs.map st0).map (·.1)).Nodup
    rw [List.map_map]
    exact nd
  · show (bs.map st0).length + (vac0 pol).length ≤ 2000
    rw [List.length_map]
    cases pol with
    | long m =>
      have := hp m rfl
      unfold vac0
      rw [List.length_map, List.length_range]
      omega
    | _ => simp [vac0]; omega
  · show (bs.map (·.1)).length ≤ 2000
    rw [List.length_map]
    omega
/-- apart -/
def Ap (S T : List Addr) : Prop := ∀ x ∈ S, x ∉ T
theorem Ap.fresh {S T : List Addr} {H : Hp} (hs : ∀ x ∈ S, H x = none) (ht : ∀ x ∈ T, H x ≠ none) : Ap S T := fun x h1 h2 => ht x h2 (hs x h1)
theorem Ap.symm {S T : List Addr} (a : Ap S T) : Ap T S := fun x h1 h2 => a x h2 h1
theorem Ap.grow {S S' T : List Addr} {H : Hp} (a : Ap S T) (hs : ∀ x ∈ S', x ∈ S ∨ H x = none) (ht : ∀ x ∈ T, H x ≠ none) : Ap S' T := fun x h1 h2 => by
  rcases hs x h1 with h | h
  · exact a x h h2
  · exact ht x h2 h
theorem Ap.sub {S S' T : List Addr} (a : Ap S T) (h : ∀ x ∈ S', x ∈ S) : Ap S' T := fun x h1 h2 => a x (h x h1) h2
theorem HA.mut_all (a : HA) : ∀ x ∈ a.mut, x ∈ a.all := fun x hx => by
  have hx : x = a.p ∨ x = a.hl := by simpa [HA.mut] using hx
  rcases hx with rfl | rfl <;> simp [HA.all]
theorem adv_all (a : HA) (da : DA) {H : Hp} (fr : ∀ x ∈ da.foot, H x = none) : ∀ x ∈ (HA.mk a.p a.dx da a.hl (a.das ++ [a.da])).all, x ∈ a.all ∨ H x = none := fun x hx => by
  unfold HA.all at hx ⊢
  rcases List.mem_cons.mp hx with rfl | hx
  · exact .inl (by simp)
  rcases List.mem_cons.mp hx with rfl | hx
  · exact .inl (by simp)
  rcases List.mem_append.mp hx with hx | hx
  · exact .inr (fr x hx)
  · left
    rw [List.flatMap_append, List.mem_append] at hx
    refine List.mem_cons_of_mem _ (List.mem_cons_of_mem _ ?_)
    rcases hx with hx | hx
    · exact List.mem_append_right _ hx
    · exact List.mem_append_left _ (by simpa using hx)
def opA (n : Nat) : PyData := .tuple [.str "advance", .int (n : Int)]
theorem ops_ok : ∀ l : List Nat, l.length ≤ 1000 → OpsOk (l.map opA) := fun l hl => by
  refine ⟨?_, ?_, ?_, by rw [List.length_map]; omega⟩
  · clear hl
    induction l with
    | nil => rfl
    | cons a l ih => show (PyData.plain (opA a) && PyData.plainAll (l.map opA)) = true; rw [ih]; rfl
  · clear hl
    induction l with
    | nil => exact Nat.zero_le _
    | cons a l ih =>
      have : (opA a).depth = 1 := by simp [opA, PyData.depth, PyData.depthAll]
      show max (opA a).depth (PyData.depthAll (l.map opA)) ≤ 4
      omega
  · clear hl
    induction l with
    | nil => exact Nat.zero_le _
    | cons a l ih =>
      have : wideD (opA a) = 2 := by simp [opA, wideD, wideAll]
      show max (wideD (opA a)) (wideAll (l.map opA)) ≤ 1000
      omega
/-- the harbour behind the advances ns -/
def advs (h : Int) (ss : List (Int × Int)) (pol : Pol) (bs : List (Int × Int)) (B : Hb) (t : Nat) (ns : List Nat) : Prop :=
  B.h = h ∧ B.ss = ss ∧ B.pol = pol ∧ daysM t (dk0 h ss pol bs) = some B.D ∧ B.day = (t : Int) ∧ B.hist.map (·.op) = ns.map opA
theorem advs.step {h : Int} {ss : List (Int × Int)} {pol : Pol} {bs : List (Int × Int)} {B : Hb} {t n : Nat} {ns : List Nat} {D' : Dk} (a : advs h ss pol bs B t ns) (hd : daysM n B.D = some D') : advs h ss pol bs (advM B n D') (t + n) (ns ++ [n]) := by
  obtain ⟨h1, h2, h3, h4, h5, h6⟩ := a
  refine ⟨h1, h2, h3, ?_, ?_, ?_⟩
  · rw [daysM_add, h4]; exact hd
  · show B.day + n = _
    rw [h5]; rfl
  · show (B.hist ++ _).map (·.op) = _
    rw [List.map_append, List.map_append, h6]
    rfl
end Ba

set_option maxHeartbeats 400000
namespace Ba
open PySem PySem.Spec PyProof.Rows L2
/-! ### the plain law: the peak -/
theorem ltP_eq (a b : Int × Int) : ltP a b = decide (a.1 < b.1 ∨ (a.1 = b.1 ∧ a.2 < b.2)) := PySem.W.dataLt_ii a.1 a.2 b.1 b.2
theorem lt5 (a b : Ev5) : PySem.W.dataLt (enc5 a) (enc5 b) = decide (([a.1, a.2.1, a.2.2.1, a.2.2.2.1, a.2.2.2.2] : List Int) < [b.1, b.2.1, b.2.2.1, b.2.2.2.1, b.2.2.2.2]) := by
  rw [← PySem.W.dataLt_ints]
  exact PySem.W.dataLt_tuple _ _
theorem ediv_bound {h x c : Int} (h1 : 1 ≤ h) (hx : -(c * h) ≤ x) : -(x / h) ≤ c := by
  have h2 : -c ≤ x / h := by
    rw [Int.le_ediv_iff_mul_le (by omega)]
    rw [Int.neg_mul]
    exact hx
  omega
theorem pkT_le {h c : Int} {k j : Nat} {s o : Int × Int} (h1 : 1 ≤ h) (hc : 0 ≤ c) (hs : 0 ≤ s.1 ∧ s.1 < h) (ho : 0 ≤ o.1 ∧ o.1 < h) (hl : o.2 ≤ c * h) : pkT h k s j o ≤ c := by
  unfold pkT
  rw [ltP_eq]
  by_cases hgt : s.1 < o.1
  · have e : decide ((s.1, (k : Int)).1 < (o.1, (j : Int)).1 ∨ ((s.1, (k : Int)).1 = (o.1, (j : Int)).1 ∧ (s.1, (k : Int)).2 < (o.1, (j : Int)).2)) = true := decide_eq_true (.inl hgt)
    rw [if_pos e]
    have := ediv_bound (h := h) (x := s.1 - o.1 - o.2) (c := c + 1) h1 (by rw [Int.add_mul]; omega)
    split <;> omega
  · have := ediv_bound (h := h) (x := s.1 - o.1 - o.2) (c := c) h1 (by omega)
    split <;> split <;> omega
theorem sum_mapIdx_le (f : Nat → Int × Int → Int) (c : Int) : ∀ (l : List (Int × Int)) (n : Nat), (∀ i x, x ∈ l → f i x ≤ c) → ((l.mapIdx fun i x => f (n + i) x)).sum ≤ l.length * c
  | [], _, _ => by simp
  | a :: l, n, h => by
    rw [List.mapIdx_cons, List.sum_cons]
    have h1 := h (n + 0) a (by simp)
    have h2 := sum_mapIdx_le f c l (n + 1) (fun i x hx => h i x (List.mem_cons_of_mem _ hx))
    have e : (l.mapIdx fun i x => f (n + (i + 1)) x) = l.mapIdx fun i x => f (n + 1 + i) x := by
      congr 1
      funext i x
      rw [Nat.add_comm i 1, ← Nat.add_assoc]
    rw [e]
    have e3 : ((a :: l).length : Int) * c = l.length * c + c := by
      rw [List.length_cons]
      push_cast
      rw [Int.add_mul, Int.one_mul]
    omega
theorem pkK_le {h most : Int} {ss : List (Int × Int)} (h1 : 1 ≤ h) (hm : most ≤ 24) (d : DrawT h most ss) {k : Nat} {s : Int × Int} (hs : 0 ≤ s.1 ∧ s.1 < h) : pkK h ss k s ≤ 56 := by
  unfold pkK
  cases ss with
  | nil => simp
  | cons a l =>
    rw [List.mapIdx_cons, List.sum_cons]
    have ha := d.sh a (by simp)
    have h2 := pkT_le (k := k) (j := 0) (s := s) (o := a) h1 (by decide : (0 : Int) ≤ 10) hs ⟨ha.1, ha.2.1⟩ ha.2.2.2
    have h3 := sum_mapIdx_le (fun i x => pkT h k s i x) 2 l 1 (fun i x hx => by
      have hx1 := d.sh x (List.mem_cons_of_mem _ hx)
      have hx2 := d.tl x hx
      exact pkT_le h1 (by decide) hs ⟨hx1.1, hx1.2.1⟩ hx2)
    have e : (l.mapIdx fun i => pkT h k s (i + 1)) = l.mapIdx fun i x => pkT h k s (1 + i) x := by
      congr 1
      funext i
      rw [Nat.add_comm]
    rw [e]
    have := d.n
    rw [List.length_cons] at this
    omega
theorem foldl_mx_le (c : Int) : ∀ (l : List Int) (a : Int), a ≤ c → (∀ x ∈ l, x ≤ c) → l.foldl mx a ≤ c
  | [], a, h, _ => h
  | x :: l, a, h, hl => by
    refine foldl_mx_le c l _ ?_ (fun y hy => hl y (List.mem_cons_of_mem _ hy))
    unfold mx
    have := hl x (by simp)
    split <;> omega
theorem le_foldl_mx : ∀ (l : List Int) (a : Int), a ≤ l.foldl mx a ∧ ∀ x ∈ l, x ≤ l.foldl mx a
  | [], a => ⟨Int.le_refl _, fun x hx => by simp at hx⟩
  | y :: l, a => by
    have ih := le_foldl_mx l (mx a y)
    have hm : a ≤ mx a y ∧ y ≤ mx a y := by unfold mx; split <;> omega
    refine ⟨Int.le_trans hm.1 ih.1, fun x hx => ?_⟩
    rcases List.mem_cons.mp hx with rfl | hx
    · exact Int.le_trans hm.2 ih.1
    · exact ih.2 x hx
theorem lawPk_le {h most : Int} {ss : List (Int × Int)} (h1 : 1 ≤ h) (hm : most ≤ 24) (d : DrawT h most ss) : lawPk h ss ≤ 56 := by
  refine foldl_mx_le 56 _ 0 (by decide) (fun x hx => ?_)
  obtain ⟨i, hi, rfl⟩ := List.getElem_of_mem hx
  rw [List.length_mapIdx] at hi
  rw [List.getElem_mapIdx]
  have := d.sh ss[i] (List.getElem_mem hi)
  exact pkK_le h1 hm d ⟨this.1, this.2.1⟩
theorem lawPk_nonneg (h : Int) (ss : List (Int × Int)) : 0 ≤ lawPk h ss := (le_foldl_mx _ 0).1
theorem pkK_le_lawPk {h : Int} {ss : List (Int × Int)} {k : Nat} {s : Int × Int} (e : ss[k]? = some s) : pkK h ss k s ≤ lawPk h ss := by
  refine (le_foldl_mx _ 0).2 _ ?_
  rw [List.mem_iff_getElem?]
  exact ⟨k, by rw [List.getElem?_mapIdx, e]; rfl⟩
end Ba

set_option maxHeartbeats 400000
namespace Ba
open PySem PySem.Spec PyProof.Rows L2
theorem perm_sum {l m : List Int} (h : l.Perm m) : l.sum = m.sum := by
  induction h with
  | nil => rfl
  | cons a _ ih => rw [List.sum_cons, List.sum_cons, ih]
  | swap a b l => simp only [List.sum_cons]; omega
  | trans _ _ h1 h2 => rw [h1, h2]
def sg (e : Ev5) : Int := if e.2.1 = 1 then 1 else -1
theorem foldl_step : ∀ (l : List Ev5) (c : Int), l.foldl stepC c = c + (l.map sg).sum
  | [], c => by simp
  | e :: l, c => by
    rw [List.foldl_cons, foldl_step l, List.map_cons, List.sum_cons]
    show c + sg e + _ = _
    omega
theorem sum_mapIdx_add (f g : Nat → Int × Int → Int) : ∀ (l : List (Int × Int)) (n : Nat), (l.mapIdx fun i x => f (n + i) x + g (n + i) x).sum = (l.mapIdx fun i x => f (n + i) x).sum + (l.mapIdx fun i x => g (n + i) x).sum
  | [], n => rfl
  | a :: l, n => by
    have e : ∀ (h : Nat → Int × Int → Int), (l.mapIdx fun i x => h (n + (i + 1)) x) = l.mapIdx fun i x => h (n + 1 + i) x := fun h => by
      congr 1
      funext i x
      rw [Nat.add_comm i 1, ← Nat.add_assoc]
    rw [List.mapIdx_cons, List.mapIdx_cons, List.mapIdx_cons, List.sum_cons, List.sum_cons, List.sum_cons]
    have ih := sum_mapIdx_add f g l (n + 1)
    rw [e f, e g, e (fun i x => f i x + g i x), ih]
    omega
theorem sum_filter_mapIdx (q : Ev5 → Bool) (f : Nat → Int × Int → Ev5) : ∀ (l : List (Int × Int)) (n : Nat), (((l.mapIdx fun i x => f (n + i) x).filter q).map sg).sum = (l.mapIdx fun i x => if q (f (n + i) x) = true then sg (f (n + i) x) else 0).sum
  | [], n => rfl
  | a :: l, n => by
    have e : ∀ {β : Type} (h : Nat → Int × Int → β), (l.mapIdx fun i x => h (n + (i + 1)) x) = l.mapIdx fun i x => h (n + 1 + i) x := fun h => by
      congr 1
      funext i x
      rw [Nat.add_comm i 1, ← Nat.add_assoc]
    rw [List.mapIdx_cons, List.mapIdx_cons, List.sum_cons, e f, e (fun i x => if q (f i x) = true then sg (f i x) else 0), List.filter_cons]
    have ih := sum_filter_mapIdx q f l (n + 1)
    by_cases hq : q (f (n + 0) a) = true
    · rw [if_pos hq, if_pos hq, List.map_cons, List.sum_cons, ih]
    · rw [if_neg hq, if_neg hq, ih]
      omega
theorem map_mapIdx_sum (g : Int × Int → Int) : ∀ (l : List (Int × Int)), (l.map g).sum = (l.mapIdx fun _ x => g x).sum
  | [] => rfl
  | a :: l => by rw [List.map_cons, List.mapIdx_cons, List.sum_cons, List.sum_cons, map_mapIdx_sum g l]
theorem evs_pw (h : Int) (ss : List (Int × Int)) : (evs h ss).Pairwise (fun a b => PySem.W.dataLe false enc5 a b = true) := PySem.W.sort_pairwise (PySem.W.sortLe_total _ _ _) _
theorem evs_perm (h : Int) (ss : List (Int × Int)) : (evs h ss).Perm (ss.mapIdx (depEv h) ++ ss.mapIdx arrEv) := List.mergeSort_perm _ _
/-- before the arrival of ship k, or it -/
def qE (s : Int × Int) (k : Nat) (x : Ev5) : Bool := if x.2.1 = 1 then !ltP (s.1, (k : Int)) (x.1, x.2.2.2.2) else decide (x.1 ≤ s.1)
theorem le5 (a b : Ev5) : PySem.W.dataLe false enc5 a b = !PySem.W.dataLt (enc5 b) (enc5 a) := rfl
theorem evs_form {h : Int} {ss : List (Int × Int)} {x : Ev5} (hx : x ∈ evs h ss) : (∃ j o, ss[j]? = some o ∧ x = depEv h j o) ∨ (∃ j o, ss[j]? = some o ∧ x = arrEv j o) := by
  have hx := (evs_perm h ss).mem_iff.mp hx
  rcases List.mem_append.mp hx with hx | hx
  · obtain ⟨i, hi, rfl⟩ := List.getElem_of_mem hx
    rw [List.length_mapIdx] at hi
    exact .inl ⟨i, ss[i], List.getElem?_eq_getElem hi, by rw [List.getElem_mapIdx]⟩
  · obtain ⟨i, hi, rfl⟩ := List.getElem_of_mem hx
    rw [List.length_mapIdx] at hi
    exact .inr ⟨i, ss[i], List.getElem?_eq_getElem hi, by rw [List.getElem_mapIdx]⟩
theorem nd_arr (ss : List (Int × Int)) (h : Int) : (ss.mapIdx (depEv h) ++ ss.mapIdx arrEv).Nodup := by
  have nd : ∀ (f : Nat → Int × Int → Ev5), (∀ i x, (f i x).2.2.2.2 = (i : Int)) → (ss.mapIdx f).Nodup := fun f hf => by
    rw [List.nodup_iff_pairwise_ne, List.pairwise_iff_getElem]
    intro i j hi hj hij e
    rw [List.getElem_mapIdx, List.getElem_mapIdx] at e
    have := congrArg (fun e : Ev5 => e.2.2.2.2) e
    simp only [hf] at this
    omega
  rw [List.nodup_append]
  refine ⟨nd _ (fun _ _ => rfl), nd _ (fun _ _ => rfl), fun a ha b hb e => ?_⟩
  obtain ⟨i, hi, rfl⟩ := List.getElem_of_mem ha
  obtain ⟨j, hj, rfl⟩ := List.getElem_of_mem hb
  rw [List.getElem_mapIdx, List.getElem_mapIdx] at e
  have := congrArg (fun e : Ev5 => e.2.1) e
  have : (0 : Int) = 1 := this
  omega
theorem lt_dep (h : Int) (j k : Nat) (o s : Int × Int) : PySem.W.dataLt (enc5 (arrEv k s)) (enc5 (depEv h j o)) = decide (s.1 < (depEv h j o).1) ∧ PySem.W.dataLt (enc5 (depEv h j o)) (enc5 (arrEv k s)) = decide ((depEv h j o).1 ≤ s.1) := by
  rw [lt5, lt5]
  constructor
  · congr 1
    simp only [arrEv, depEv, List.cons_lt_cons_iff, eq_iff_iff]
    omega
  · congr 1
    simp only [arrEv, depEv, List.cons_lt_cons_iff, eq_iff_iff]
    omega
theorem lt_arr (j k : Nat) (o s : Int × Int) : PySem.W.dataLt (enc5 (arrEv k s)) (enc5 (arrEv j o)) = ltP (s.1, (k : Int)) (o.1, (j : Int)) := by
  rw [lt5, ltP_eq]
  congr 1
  simp [arrEv, List.cons_lt_cons_iff]
  first | done | omega
/-- the terms agree -/
theorem term_eq {h : Int} {k j : Nat} {s o : Int × Int} (h1 : 1 ≤ h) (hs : 0 ≤ s.1 ∧ s.1 < h) (ho : 0 ≤ o.1 ∧ o.1 < h) (hl : 0 ≤ o.2) :
    (o.1 + o.2) / h + (if qE s k (depEv h j o) = true then sg (depEv h j o) else 0) + (if qE s k (arrEv j o) = true then sg (arrEv j o) else 0) = pkT h k s j o := by
  have e1 : qE s k (depEv h j o) = decide ((o.1 + o.2) % h ≤ s.1) := rfl
  have e2 : qE s k (arrEv j o) = !ltP (s.1, (k : Int)) (o.1, (j : Int)) := rfl
  have e3 : sg (depEv h j o) = -1 := rfl
  have e4 : sg (arrEv j o) = 1 := rfl
  rw [e1, e2, e3, e4]
  unfold pkT
  have hY := Int.mul_ediv_add_emod (o.1 + o.2) h
  have hr0 := Int.emod_nonneg (o.1 + o.2) (show h ≠ 0 by omega)
  have hr1 := Int.emod_lt_of_pos (o.1 + o.2) (show 0 < h by omega)
  have hq0 : 0 ≤ (o.1 + o.2) / h := Int.ediv_nonneg (by omega) (by omega)
  generalize (o.1 + o.2) / h = qq at hY hq0 ⊢
  generalize (o.1 + o.2) % h = r at hY hr0 hr1 ⊢
  have hX : (s.1 - o.1 - o.2) / h = (if r ≤ s.1 then 0 else -1) - qq := by
    have : s.1 - o.1 - o.2 = (s.1 - r) + h * (-qq) := by
      rw [Int.mul_neg]
      omega
    rw [this, Int.add_mul_ediv_left _ _ (show h ≠ 0 by omega)]
    by_cases hc : r ≤ s.1
    · rw [if_pos hc, Int.ediv_eq_zero_of_lt (a := s.1 - r) (b := h) (by omega) (by omega)]
      omega
    · rw [if_neg hc]
      have : (s.1 - r) / h = -1 := by
        rw [show s.1 - r = (s.1 - r + h) + h * (-1) by omega, Int.add_mul_ediv_left _ _ (show h ≠ 0 by omega), Int.ediv_eq_zero_of_lt (a := s.1 - r + h) (b := h) (by omega) (by omega)]
        rfl
      rw [this]
      omega
  rw [hX]
  cases hlt : ltP (s.1, (k : Int)) (o.1, (j : Int)) <;> by_cases hc : r ≤ s.1
  · simp only [hc, decide_true, if_true, Bool.not_false, Bool.false_eq_true, if_false]
    split <;> omega
  · simp only [hc, decide_false, if_false, Bool.not_false, if_true, Bool.false_eq_true]
    split <;> omega
  · simp only [hc, decide_true, if_true, Bool.not_true, Bool.false_eq_true, if_false]
    split <;> omega
  · simp only [hc, decide_false, if_false, Bool.not_true, Bool.false_eq_true, if_true]
    split <;> omega
/-- the count after an arrival -/
theorem arr_count {h : Int} {ss : List (Int × Int)} {p r : List Ev5} {k : Nat} {s : Int × Int} (h1 : 1 ≤ h) (hsh : ∀ x ∈ ss, 0 ≤ x.1 ∧ x.1 < h ∧ 1 ≤ x.2) (hs : ss[k]? = some s) (he : evs h ss = p ++ arrEv k s :: r) :
    p.foldl stepC (midM h ss) + 1 = pkK h ss k s := by
  have hpw := evs_pw h ss
  have hpm := evs_perm h ss
  have hnd : (evs h ss).Nodup := hpm.nodup_iff.mpr (nd_arr ss h)
  have hs1 := hsh s (List.mem_of_getElem? hs)
  have hq : (evs h ss).filter (qE s k) = p ++ [arrEv k s] := by
    rw [he] at hpw hnd ⊢
    rw [List.pairwise_append] at hpw
    obtain ⟨_, hpr, hpc⟩ := hpw
    rw [List.pairwise_cons] at hpr
    rw [List.filter_append, List.filter_cons]
    have q0 : qE s k (arrEv k s) = true := by
      show (!ltP (s.1, (k : Int)) (s.1, (k : Int))) = true
      rw [ltP_eq]
      simp
    rw [if_pos q0]
    have qp : p.filter (qE s k) = p := by
      rw [List.filter_eq_self]
      intro x hx
      have hle := hpc x hx (arrEv k s) (by simp)
      rw [le5] at hle
      rcases evs_form (show x ∈ evs h ss by rw [he]; exact List.mem_append_left _ hx) with ⟨j, o, ho, rfl⟩ | ⟨j, o, ho, rfl⟩
      · rw [(lt_dep h j k o s).1] at hle
        show decide ((depEv h j o).1 ≤ s.1) = true
        simp only [Bool.not_eq_true', decide_eq_false_iff_not] at hle
        rw [decide_eq_true_iff]
        omega
      · rw [lt_arr] at hle
        exact hle
    have qr : r.filter (qE s k) = [] := by
      rw [List.filter_eq_nil_iff]
      intro x hx
      have hle := hpr.1 x hx
      rw [le5] at hle
      rcases evs_form (show x ∈ evs h ss by rw [he]; exact List.mem_append_right _ (List.mem_cons_of_mem _ hx)) with ⟨j, o, ho, rfl⟩ | ⟨j, o, ho, rfl⟩
      · rw [(lt_dep h j k o s).2] at hle
        show ¬ decide ((depEv h j o).1 ≤ s.1) = true
        simp only [Bool.not_eq_true', decide_eq_false_iff_not] at hle
        rw [decide_eq_true_iff]
        exact hle
      · rw [lt_arr] at hle
        show ¬ (!ltP (s.1, (k : Int)) (o.1, (j : Int))) = true
        rw [ltP_eq] at hle ⊢
        have hjk : j ≠ k := fun z => by
          subst z
          rw [hs] at ho
          cases ho
          rw [List.nodup_append] at hnd
          exact (List.nodup_cons.mp hnd.2.1).1 hx
        simp only [Bool.not_eq_true', decide_eq_false_iff_not, decide_eq_true_iff, Bool.not_eq_true, decide_eq_true_iff] at hle ⊢
        try simp only [Bool.not_eq_false', decide_eq_true_iff]
        omega
    rw [qp, qr]
  have hsum : (p.map sg).sum + 1 = (((evs h ss).filter (qE s k)).map sg).sum := by
    rw [hq, List.map_append, List.sum_append]
    show _ = _ + (sg (arrEv k s) + 0)
    rfl
  have hpsum : (((evs h ss).filter (qE s k)).map sg).sum = (((ss.mapIdx (depEv h) ++ ss.mapIdx arrEv).filter (qE s k)).map sg).sum := perm_sum ((hpm.filter _).map _)
  rw [foldl_step, Int.add_assoc, hsum, hpsum, List.filter_append, List.map_append, List.sum_append]
  have z : ∀ {β : Type} (f : Nat → Int × Int → β), (ss.mapIdx f) = ss.mapIdx fun i x => f (0 + i) x := fun f => by
    congr 1
    funext i x
    rw [Nat.zero_add]
  rw [z (depEv h), z arrEv, sum_filter_mapIdx (qE s k) (depEv h) ss 0, sum_filter_mapIdx (qE s k) arrEv ss 0]
  unfold midM pkK
  rw [map_mapIdx_sum, ← Int.add_assoc]
  rw [show (ss.mapIdx fun _ x => (x.1 + x.2) / h) = ss.mapIdx fun i x => (fun (_ : Nat) (x : Int × Int) => (x.1 + x.2) / h) (0 + i) x from rfl]
  rw [← sum_mapIdx_add (fun (_ : Nat) (x : Int × Int) => (x.1 + x.2) / h) (fun i x => if qE s k (depEv h i x) = true then sg (depEv h i x) else 0) ss 0]
  rw [← sum_mapIdx_add (fun i x => (x.1 + x.2) / h + (if qE s k (depEv h i x) = true then sg (depEv h i x) else 0)) (fun i x => if qE s k (arrEv i x) = true then sg (arrEv i x) else 0) ss 0]
  congr 1
  apply List.ext_getElem?
  intro i
  rw [List.getElem?_mapIdx, List.getElem?_mapIdx]
  cases e : ss[i]? with
  | none => rfl
  | some o =>
    have := hsh o (List.mem_of_getElem? e)
    show some _ = some _
    congr 1
    rw [Nat.zero_add]
    exact term_eq h1 ⟨hs1.1, hs1.2.1⟩ ⟨this.1, this.2.1⟩ (by omega)
end Ba

set_option maxHeartbeats 400000
namespace Ba
open PySem PySem.Spec PyProof.Rows L2
theorem runC_le (M : Int) : ∀ (l : List Ev5) (c : Int), (∀ p e r, l = p ++ e :: r → e.2.1 = 1 → p.foldl stepC c + 1 ≤ M) → ∀ x ∈ runC c l, x ≤ max c M
  | [], c, _, x, hx => by simp [runC] at hx
  | e :: l, c, h, x, hx => by
    have ih := runC_le M l (stepC c e) (fun p e2 r hl h1 => h (e :: p) e2 r (by rw [hl]; rfl) h1)
    have h0 : stepC c e ≤ max c M := by
      unfold stepC
      by_cases h1 : e.2.1 = 1
      · have := h [] e l rfl h1
        rw [if_pos h1]
        have h2 : c + 1 ≤ M := this
        omega
      · rw [if_neg h1]
        omega
    have hx : x ∈ stepC c e :: runC (stepC c e) l := hx
    rcases List.mem_cons.mp hx with rfl | hx
    · exact h0
    · have := ih x hx
      omega
theorem dep_fold : ∀ (l : List Ev5) (c : Int), (∀ e ∈ l, e.2.1 ≠ 1) → l.foldl stepC c ≤ c
  | [], c, _ => Int.le_refl _
  | e :: l, c, h => by
    have h1 := h e (by simp)
    have ih := dep_fold l (stepC c e) (fun x hx => h x (List.mem_cons_of_mem _ hx))
    have : stepC c e = c - 1 := by unfold stepC; rw [if_neg h1]; omega
    rw [List.foldl_cons]
    omega
theorem fin_le (M : Int) : ∀ (l : List Ev5) (c : Int), (∀ p e r, l = p ++ e :: r → e.2.1 = 1 → p.foldl stepC c + 1 ≤ M) → (∃ e ∈ l, e.2.1 = 1) → l.foldl stepC c ≤ M
  | [], _, _, ⟨e, he, _⟩ => by simp at he
  | e :: l, c, h, hx => by
    rw [List.foldl_cons]
    by_cases hr : ∃ e ∈ l, e.2.1 = 1
    · exact fin_le M l (stepC c e) (fun p e2 r hl h1 => h (e :: p) e2 r (by rw [hl]; rfl) h1) hr
    · have h1 : e.2.1 = 1 := by
        obtain ⟨e2, he2, h2⟩ := hx
        rcases List.mem_cons.mp he2 with rfl | he2
        · exact h2
        · exact absurd ⟨e2, he2, h2⟩ hr
      have h2 : c + 1 ≤ M := h [] e l rfl h1
      have h3 := dep_fold l (stepC c e) (fun x hx z => hr ⟨x, hx, z⟩)
      have : stepC c e = c + 1 := by unfold stepC; rw [if_pos h1]
      omega
theorem sum_const (f : Nat → Int × Int → Ev5) (v : Int) (hf : ∀ i x, sg (f i x) = v) : ∀ (l : List (Int × Int)) (n : Nat), ((l.mapIdx fun i x => f (n + i) x).map sg).sum = l.length * v
  | [], n => by simp
  | a :: l, n => by
    have e : (l.mapIdx fun i x => f (n + (i + 1)) x) = l.mapIdx fun i x => f (n + 1 + i) x := by
      congr 1
      funext i x
      rw [Nat.add_comm i 1, ← Nat.add_assoc]
    rw [List.mapIdx_cons, List.map_cons, List.sum_cons, e, sum_const f v hf l (n + 1), hf, List.length_cons]
    push_cast
    rw [Int.add_mul]
    omega
theorem sg_zero (h : Int) (ss : List (Int × Int)) : ((evs h ss).map sg).sum = 0 := by
  rw [perm_sum ((evs_perm h ss).map _), List.map_append, List.sum_append]
  have z : ∀ {β : Type} (f : Nat → Int × Int → β), (ss.mapIdx f) = ss.mapIdx fun i x => f (0 + i) x := fun f => by
    congr 1
    funext i x
    rw [Nat.zero_add]
  rw [z (depEv h), z arrEv, sum_const (depEv h) (-1) (fun _ _ => rfl), sum_const arrEv 1 (fun _ _ => rfl)]
  omega
theorem maxI_le {M : Int} : ∀ {l : List Int} {d : Int}, d ≤ M → (∀ x ∈ l, x ≤ M) → maxI l d ≤ M
  | [], d, hd, _ => hd
  | n :: ns, d, _, h => by
    show ns.foldl max n ≤ M
    have h0 := h n (by simp)
    have hns : ∀ x ∈ ns, x ≤ M := fun x hx => h x (List.mem_cons_of_mem _ hx)
    clear h
    induction ns generalizing n with
    | nil => exact h0
    | cons a l ih =>
      rw [List.foldl_cons]
      have := hns a (by simp)
      exact ih (max n a) (by omega) (fun x hx => hns x (List.mem_cons_of_mem _ hx))
theorem peakM_le {h : Int} {ss : List (Int × Int)} (h1 : 1 ≤ h) (hsh : ∀ x ∈ ss, 0 ≤ x.1 ∧ x.1 < h ∧ 1 ≤ x.2) : peakM h ss ≤ lawPk h ss := by
  have harr : ∀ p e r, evs h ss = p ++ e :: r → e.2.1 = 1 → p.foldl stepC (midM h ss) + 1 ≤ lawPk h ss := fun p e r he hk => by
    rcases evs_form (show e ∈ evs h ss by rw [he]; simp) with ⟨j, o, ho, rfl⟩ | ⟨j, o, ho, rfl⟩
    · have : (0 : Int) = 1 := hk
      omega
    · rw [arr_count h1 hsh ho he]
      exact pkK_le_lawPk ho
  refine maxI_le (lawPk_nonneg h ss) (fun x hx => ?_)
  have hle := runC_le _ _ _ harr x hx
  cases hss : ss with
  | nil =>
    rw [hss] at hx
    have : evs h [] = [] := List.eq_nil_of_length_eq_zero (evs_length h [])
    unfold countsM at hx
    rw [this] at hx
    simp [runC] at hx
  | cons a l =>
    have hin : ∃ e ∈ evs h ss, e.2.1 = 1 := by
      refine ⟨arrEv 0 a, (evs_perm h ss).mem_iff.mpr (List.mem_append_right _ ?_), rfl⟩
      rw [List.mem_iff_getElem?]
      exact ⟨0, by rw [List.getElem?_mapIdx, hss]; rfl⟩
    have hfin := fin_le _ _ _ harr hin
    rw [foldl_step, sg_zero] at hfin
    rw [← hss]
    omega
theorem tab_ok {h most : Int} {ss : List (Int × Int)} (h1 : 1 ≤ h) (h2 : h ≤ 1000) (hm : most ≤ 24) (d : DrawT h most ss) : isTableD (tbD h ss) = true := by
  have tv : TabV h ss := ⟨h1, h2, by have := d.n; omega, fun s hs => by have := d.sh s hs; omega⟩
  unfold isTableD
  rw [isShapeD_tb tv, tabOf_tb, Bool.true_and, decide_eq_true_iff]
  have a := peakM_le h1 (fun x hx => by have := d.sh x hx; omega) (h := h) (ss := ss)
  have b := lawPk_le h1 hm d
  show peakM h ss ≤ 60
  omega
theorem pol_ok {h most : Int} {ss : List (Int × Int)} {pol : Pol} (h1 : 1 ≤ h) (hm : most ≤ 24) (d : DrawT h most ss) (dp : DrawP h ss pol) : isPolicyD h ss (polD pol) = true ∧ PolOk pol := by
  have a := peakM_le h1 (fun x hx => by have := d.sh x hx; omega) (h := h) (ss := ss)
  have b := lawPk_le h1 hm d
  have c := lawPk_nonneg h ss
  cases pol with
  | least => exact ⟨rfl, fun m z => nomatch z⟩
  | last => exact ⟨rfl, fun m z => nomatch z⟩
  | long m =>
    have := dp m rfl
    refine ⟨?_, fun m2 z => by injection z with z; omega⟩
    show (PyData.eqv (.str "long") (.str "long") && inRangeD (peakM h ss) 200 (.int m)) = true
    rw [Bool.and_eq_true]
    refine ⟨rfl, ?_⟩
    simp only [inRangeD, Bool.and_eq_true, decide_eq_true_eq]
    omega
end Ba

set_option maxHeartbeats 400000
namespace Ba
open PySem PySem.Spec PyProof.Rows L2
theorem ints_count : ∀ (N : Nat) (a : Int) (l : List Int), l.Nodup → (∀ x ∈ l, a ≤ x ∧ x < a + N) → l.length ≤ N
  | 0, a, l, _, h => by
    cases l with
    | nil => exact Nat.le_refl _
    | cons x l => have := h x (by simp); omega
  | N + 1, a, l, nd, h => by
    have ih := ints_count N a (l.erase (a + N)) (nd.erase _) (fun x hx => by
      have hx1 := (List.Nodup.mem_erase_iff nd).mp hx
      have := h x hx1.2
      have h2 := hx1.1
      push_cast at this
      omega)
    have : l.length ≤ (l.erase (a + N)).length + 1 := by
      by_cases hm : (a + (N : Int)) ∈ l
      · rw [List.length_erase_of_mem hm]; omega
      · rw [List.erase_of_not_mem hm]; omega
    omega
theorem count_ships (f : Nat → Int × Int → Int) : ∀ (ss : List (Int × Int)) (n : Nat) (l : List St4), (∀ x ∈ l, ∃ i : Nat, i < ss.length ∧ x.2.2.2 = ((n + i : Nat) : Int)) →
    (∀ i o, ss[i]? = some o → ((l.filter fun x => decide (x.2.2.2 = ((n + i : Nat) : Int))).length : Int) ≤ f (n + i) o) → (l.length : Int) ≤ (ss.mapIdx fun i o => f (n + i) o).sum
  | [], n, l, h, _ => by
    cases l with
    | nil => simp
    | cons x l => obtain ⟨i, hi, _⟩ := h x (by simp); simp at hi
  | a :: ss, n, l, h, hf => by
    have e : (ss.mapIdx fun i o => f (n + (i + 1)) o) = ss.mapIdx fun i o => f (n + 1 + i) o := by
      congr 1
      funext i x
      rw [Nat.add_comm i 1, ← Nat.add_assoc]
    rw [List.mapIdx_cons, List.sum_cons, e]
    have h0 := hf 0 a rfl
    have ih := count_ships f ss (n + 1) (l.filter fun x => !decide (x.2.2.2 = ((n + 0 : Nat) : Int))) (fun x hx => by
      have hx1 := List.mem_filter.mp hx
      obtain ⟨i, hi, e⟩ := h x hx1.1
      cases i with
      | zero =>
        have : decide (x.2.2.2 = ((n + 0 : Nat) : Int)) = true := decide_eq_true e
        rw [this] at hx1
        simp at hx1
      | succ i => exact ⟨i, by rw [List.length_cons] at hi; omega, by rw [e]; congr 1; omega⟩) (fun i o ho => by
      have h1 := hf (i + 1) o (by simpa using ho)
      rw [show n + 1 + i = n + (i + 1) by omega]
      refine Int.le_trans ?_ h1
      rw [List.filter_filter]
      have : ((l.filter fun x => decide (x.2.2.2 = ((n + (i + 1) : Nat) : Int)) && !decide (x.2.2.2 = ((n + 0 : Nat) : Int))).length) ≤ (l.filter fun x => decide (x.2.2.2 = ((n + (i + 1) : Nat) : Int))).length := by
        rw [← List.filter_filter]
        have h3 := List.length_filter_le (fun x : St4 => decide (x.2.2.2 = ((n + (i + 1) : Nat) : Int))) (l.filter fun x => !decide (x.2.2.2 = ((n + 0 : Nat) : Int)))
        rw [List.filter_filter]
        rw [show (l.filter fun a => decide (a.2.2.2 = ((n + (i + 1) : Nat) : Int)) && !decide (a.2.2.2 = ((n + 0 : Nat) : Int))) = (l.filter fun x => decide (x.2.2.2 = ((n + (i + 1) : Nat) : Int))).filter (fun x => !decide (x.2.2.2 = ((n + 0 : Nat) : Int))) by rw [List.filter_filter]; congr 1; funext x; rw [Bool.and_comm]]
        exact List.length_filter_le _ _
      omega)
    have hl : l.length = (l.filter fun x => decide (x.2.2.2 = ((n + 0 : Nat) : Int))).length + (l.filter fun x => !decide (x.2.2.2 = ((n + 0 : Nat) : Int))).length := by
      clear h hf h0 ih e
      induction l with
      | nil => rfl
      | cons x l ih =>
        rw [List.filter_cons, List.filter_cons, List.length_cons, ih]
        cases decide (x.2.2.2 = ((n + 0 : Nat) : Int)) <;> simp <;> omega
    omega
/-- the stays are calls of the table, before the event (t, k) -/
structure StOk (h : Int) (ss : List (Int × Int)) (st : List St4) (t k : Int) : Prop where
  of : ∀ x ∈ st, ∃ (j : Nat) (o : Int × Int) (d : Int), ss[j]? = some o ∧ x.2.2.2 = (j : Int) ∧ x.2.2.1 = d * h + o.1 ∧ x.2.1 = x.2.2.1 + o.2
  nd : (st.map fun x => (x.2.2.1, x.2.2.2)).Nodup
  bf : ∀ x ∈ st, x.2.2.1 < t ∨ (x.2.2.1 = t ∧ x.2.2.2 < k)
theorem ship_count {h : Int} {ss : List (Int × Int)} (h1 : 1 ≤ h) (hsh : ∀ x ∈ ss, 0 ≤ x.1 ∧ x.1 < h ∧ 1 ≤ x.2) {st : List St4} {k : Nat} {s : Int × Int} {d : Int} (hs : ss[k]? = some s) (ok : StOk h ss st (d * h + s.1) (k : Int)) (hu : ∀ x ∈ st, d * h + s.1 < x.2.1) {j : Nat} {o : Int × Int} (ho : ss[j]? = some o) :
    ((st.filter fun x => decide (x.2.2.2 = (j : Int))).length : Int) ≤ pkT h k s j o - (if j = k then 1 else 0) := by
  have hs1 := hsh s (List.mem_of_getElem? hs)
  have ho1 := hsh o (List.mem_of_getElem? ho)
  -- the days back
  have hex : ∀ x ∈ st.filter (fun x => decide (x.2.2.2 = (j : Int))), ∃ e : Int, x.2.2.1 = (d - e) * h + o.1 ∧ e * h < o.1 + o.2 - s.1 ∧ (o.1 - s.1 < e * h ∨ (o.1 - s.1 = e * h ∧ j < k)) := by
    intro x hx
    obtain ⟨hx1, hx2⟩ := List.mem_filter.mp hx
    have hx2 := of_decide_eq_true hx2
    obtain ⟨j2, o2, d2, e1, e2, e3, e4⟩ := ok.of x hx1
    have hj : j2 = j := by rw [hx2] at e2; omega
    subst hj
    rw [ho] at e1
    cases e1
    have hb := ok.bf x hx1
    have huu := hu x hx1
    refine ⟨d - d2, by rw [e3]; congr 2; omega, ?_, ?_⟩
    · rw [Int.sub_mul]; omega
    · rw [Int.sub_mul]
      rcases hb with hb | ⟨hb1, hb2⟩
      · left; omega
      · right; exact ⟨by omega, by omega⟩
  have hC : ∀ e : Int, e * h < o.1 + o.2 - s.1 → e < -((s.1 - o.1 - o.2) / h) := fun e he => by
    have : (s.1 - o.1 - o.2) / h < -e := Int.ediv_lt_of_lt_mul (by omega) (by rw [Int.neg_mul]; omega)
    omega
  have hlo : ∀ e : Int, (o.1 - s.1 < e * h ∨ (o.1 - s.1 = e * h ∧ j < k)) → 0 ≤ e := fun e he => by
    by_cases hn : 0 ≤ e
    · exact hn
    · have := Int.mul_le_mul_of_nonneg_right (show e ≤ -1 by omega) (show 0 ≤ h by omega)
      rw [Int.neg_mul, Int.one_mul] at this
      omega
  have hlo1 : ltP (s.1, (k : Int)) (o.1, (j : Int)) = true ∨ j = k → ∀ e : Int, (o.1 - s.1 < e * h ∨ (o.1 - s.1 = e * h ∧ j < k)) → 1 ≤ e := fun hc e he => by
    by_cases hn : 1 ≤ e
    · exact hn
    · have hm := Int.mul_le_mul_of_nonneg_right (show e ≤ 0 by omega) (show 0 ≤ h by omega)
      rw [Int.zero_mul] at hm
      rcases hc with hc | hc
      · rw [ltP_eq, decide_eq_true_iff] at hc
        simp only at hc
        omega
      · subst hc
        rw [ho] at hs
        cases hs
        omega
  have hC1 : ltP (s.1, (k : Int)) (o.1, (j : Int)) = true ∨ j = k → 1 ≤ -((s.1 - o.1 - o.2) / h) := fun hc => by
    have h2 : s.1 ≤ o.1 := by
      rcases hc with hc | hc
      · rw [ltP_eq, decide_eq_true_iff] at hc
        simp only at hc
        omega
      · subst hc
        rw [ho] at hs
        cases hs
        omega
    have := hC 0 (by omega)
    omega
  -- the list of the days back
  have hlen : (st.filter fun x => decide (x.2.2.2 = (j : Int))).length = ((st.filter fun x => decide (x.2.2.2 = (j : Int))).map fun x => d - (x.2.2.1 - o.1) / h).length := by rw [List.length_map]
  have hev : ∀ (e : Int), d - ((d - e) * h + o.1 - o.1) / h = e := fun e => by
    rw [Int.add_sub_cancel, Int.mul_ediv_cancel _ (show h ≠ 0 by omega)]
    omega
  have hnd : ((st.filter fun x => decide (x.2.2.2 = (j : Int))).map fun x => d - (x.2.2.1 - o.1) / h).Nodup := by
    have nd2 : ((st.filter fun x => decide (x.2.2.2 = (j : Int))).map fun x => (x.2.2.1, x.2.2.2)).Nodup := (List.Sublist.map _ List.filter_sublist).nodup ok.nd
    generalize hL : (st.filter fun x => decide (x.2.2.2 = (j : Int))) = L at nd2 hex
    have hship : ∀ x ∈ L, x.2.2.2 = (j : Int) := fun x hx => by
      rw [← hL] at hx
      exact of_decide_eq_true (List.mem_filter.mp hx).2
    clear hL hlen
    induction L with
    | nil => exact .nil
    | cons x L ih =>
      rw [List.map_cons, List.nodup_cons] at nd2 ⊢
      refine ⟨fun m => nd2.1 ?_, ih nd2.2 (fun y hy => hex y (List.mem_cons_of_mem _ hy)) (fun y hy => hship y (List.mem_cons_of_mem _ hy))⟩
      obtain ⟨y, hy, e⟩ := List.mem_map.mp m
      obtain ⟨ex, x1, _⟩ := hex x (by simp)
      obtain ⟨ey, y1, _⟩ := hex y (List.mem_cons_of_mem _ hy)
      have e : d - (y.2.2.1 - o.1) / h = d - (x.2.2.1 - o.1) / h := e
      rw [x1, y1, hev, hev] at e
      refine List.mem_map.mpr ⟨y, hy, ?_⟩
      rw [y1, x1, e, hship x (by simp), hship y (List.mem_cons_of_mem _ hy)]
  have hmem : ∀ z ∈ ((st.filter fun x => decide (x.2.2.2 = (j : Int))).map fun x => d - (x.2.2.1 - o.1) / h), z < -((s.1 - o.1 - o.2) / h) ∧ (o.1 - s.1 < z * h ∨ (o.1 - s.1 = z * h ∧ j < k)) := by
    intro z hz
    obtain ⟨x, hx, rfl⟩ := List.mem_map.mp hz
    obtain ⟨e, x1, x2, x3⟩ := hex x hx
    rw [x1, hev]
    exact ⟨hC e x2, x3⟩
  rw [hlen]
  by_cases hc : ltP (s.1, (k : Int)) (o.1, (j : Int)) = true ∨ j = k
  · have := ints_count (-((s.1 - o.1 - o.2) / h) - 1).toNat 1 _ hnd (fun z hz => by
      have := hmem z hz
      have h2 := hlo1 hc z this.2
      have h3 := hC1 hc
      omega)
    have h3 := hC1 hc
    unfold pkT
    rw [if_pos (show -((s.1 - o.1 - o.2) / h) > 0 by omega)]
    by_cases hlt : ltP (s.1, (k : Int)) (o.1, (j : Int)) = true
    · have hjk : ¬ j = k := fun z => by
        subst z
        rw [ho] at hs
        cases hs
        rw [ltP_eq, decide_eq_true_iff] at hlt
        simp only at hlt
        omega
      rw [if_pos hlt, if_neg hjk]
      omega
    · have hjk : j = k := by
        rcases hc with hc | hc
        · exact absurd hc hlt
        · exact hc
      rw [if_neg hlt, if_pos hjk]
      omega
  · have hlt : ¬ ltP (s.1, (k : Int)) (o.1, (j : Int)) = true := fun z => hc (.inl z)
    have hjk : ¬ j = k := fun z => hc (.inr z)
    have := ints_count (-((s.1 - o.1 - o.2) / h)).toNat 0 _ hnd (fun z hz => by
      have := hmem z hz
      have h2 := hlo z this.2
      omega)
    unfold pkT
    rw [if_neg hlt, if_neg hjk]
    split <;> omega
theorem sum_sub_one (f : Nat → Int × Int → Int) (k : Nat) : ∀ (l : List (Int × Int)) (n : Nat), n ≤ k → k < n + l.length → (l.mapIdx fun i x => f (n + i) x - (if n + i = k then 1 else 0)).sum = (l.mapIdx fun i x => f (n + i) x).sum - 1
  | [], n, h1, h2 => by simp at h2; omega
  | a :: l, n, h1, h2 => by
    have e : ∀ (g : Nat → Int × Int → Int), (l.mapIdx fun i x => g (n + (i + 1)) x) = l.mapIdx fun i x => g (n + 1 + i) x := fun g => by
      congr 1
      funext i x
      rw [Nat.add_comm i 1, ← Nat.add_assoc]
    rw [List.mapIdx_cons, List.mapIdx_cons, List.sum_cons, List.sum_cons, e f, e (fun i x => f i x - (if i = k then 1 else 0))]
    by_cases hk : n + 0 = k
    · have : (l.mapIdx fun i x => f (n + 1 + i) x - (if n + 1 + i = k then 1 else 0)) = l.mapIdx fun i x => f (n + 1 + i) x := by
        congr 1
        funext i x
        rw [if_neg (by omega)]
        omega
      rw [if_pos hk, this]
      omega
    · rw [if_neg hk, sum_sub_one f k l (n + 1) (by omega) (by rw [List.length_cons] at h2; omega)]
      omega
/-- before a call enters, fewer than the peak are there -/
theorem present_lt {h : Int} {ss : List (Int × Int)} (h1 : 1 ≤ h) (hsh : ∀ x ∈ ss, 0 ≤ x.1 ∧ x.1 < h ∧ 1 ≤ x.2) {st : List St4} {k : Nat} {s : Int × Int} {d : Int} (hs : ss[k]? = some s) (ok : StOk h ss st (d * h + s.1) (k : Int)) (hu : ∀ x ∈ st, d * h + s.1 < x.2.1) :
    (st.length : Int) < lawPk h ss := by
  have hk := (List.getElem?_eq_some_iff.mp hs).1
  have h2 := count_ships (fun i o => pkT h k s i o - (if i = k then 1 else 0)) ss 0 st (fun x hx => by
    obtain ⟨j, o, d2, e1, e2, _⟩ := ok.of x hx
    exact ⟨j, (List.getElem?_eq_some_iff.mp e1).1, by rw [Nat.zero_add]; exact e2⟩) (fun i o ho => by
    rw [Nat.zero_add]
    exact ship_count h1 hsh hs ok hu ho)
  rw [sum_sub_one (fun i o => pkT h k s i o) k ss 0 (Nat.zero_le _) (by omega)] at h2
  have h3 := pkK_le_lawPk (h := h) hs
  have h4 : (ss.mapIdx fun i x => pkT h k s (0 + i) x).sum = pkK h ss k s := by
    unfold pkK
    congr 2
    funext i
    rw [Nat.zero_add]
  rw [h4] at h2
  omega
end Ba

set_option maxHeartbeats 400000
namespace Ba
open PySem PySem.Spec PyProof.Rows L2
structure RI (h : Int) (ss : List (Int × Int)) (m : Int) (D : Dk) (t k : Int) : Prop where
  pol : D.pol = .long m
  hh : D.h = h
  hs : D.ss = ss
  st : StOk h ss D.stays t k
  len : D.vac.length + D.stays.length = m.toNat
  nd : (D.vac ++ D.stays.map (·.1)).Nodup
theorem StOk.mono {h : Int} {ss : List (Int × Int)} {st : List St4} {t k t' k' : Int} (s : StOk h ss st t k) (hl : t < t' ∨ (t = t' ∧ k ≤ k')) : StOk h ss st t' k' :=
  ⟨s.of, s.nd, fun x hx => by have := s.bf x hx; omega⟩
theorem StOk.sub {h : Int} {ss : List (Int × Int)} {st : List St4} {t k : Int} (s : StOk h ss st t k) (p : St4 → Bool) : StOk h ss (st.filter p) t k :=
  ⟨fun x hx => s.of x (List.mem_filter.mp hx).1, (List.Sublist.map _ List.filter_sublist).nodup s.nd, fun x hx => s.bf x (List.mem_filter.mp hx).1⟩
theorem RI.mono {h : Int} {ss : List (Int × Int)} {m : Int} {D : Dk} {t k t' k' : Int} (r : RI h ss m D t k) (hl : t < t' ∨ (t = t' ∧ k ≤ k')) : RI h ss m D t' k' := ⟨r.pol, r.hh, r.hs, r.st.mono hl, r.len, r.nd⟩
theorem RI.leave {h : Int} {ss : List (Int × Int)} {m : Int} {D : Dk} {t k : Int} (r : RI h ss m D t k) (u : Int) : RI h ss m (leaveM D u) t k := by
  have hl : D.pol.isLeast = false := by rw [r.pol]; rfl
  have hnd := List.nodup_append.mp r.nd
  have hsp := leave_split D.stays u
  have hlen := r.len
  refine ⟨r.pol, r.hh, r.hs, r.st.sub _, ?_, ?_⟩
  · show (if D.pol.isLeast = true then D.vac else D.vac ++ (lvs D.stays u).map (·.2.2.2)).length + (D.stays.filter fun s => !decide (s.2.1 ≤ u)).length = _
    rw [hl]
    simp only [Bool.false_eq_true, if_false]
    rw [List.length_append, List.length_map]
    omega
  · show ((if D.pol.isLeast = true then D.vac else D.vac ++ (lvs D.stays u).map (·.2.2.2)) ++ (D.stays.filter fun s => !decide (s.2.1 ≤ u)).map (·.1)).Nodup
    rw [hl]
    simp only [Bool.false_eq_true, if_false]
    have hsub : ∀ b ∈ (lvs D.stays u).map (·.2.2.2), b ∈ D.stays.map (·.1) := fun b hb => by
      obtain ⟨l, hl1, rfl⟩ := List.mem_map.mp hb
      obtain ⟨s, hs, rfl, _⟩ := lvs_sub hl1
      exact List.mem_map.mpr ⟨s, hs, rfl⟩
    rw [List.nodup_append, List.nodup_append]
    refine ⟨⟨hnd.1, lvs_nd hnd.2.1, fun a ha b hb => hnd.2.2 a ha b (hsub b hb)⟩, (List.Sublist.map _ List.filter_sublist).nodup hnd.2.1, fun a ha b hb e => ?_⟩
    obtain ⟨s, hs, rfl⟩ := List.mem_map.mp hb
    obtain ⟨hs1, hs2⟩ := List.mem_filter.mp hs
    subst e
    rcases List.mem_append.mp ha with ha | ha
    · exact hnd.2.2 _ ha _ (List.mem_map.mpr ⟨s, hs1, rfl⟩) rfl
    · have := (lvs_mem hnd.2.1 hs1).mp ha
      rw [decide_eq_true this] at hs2
      cases hs2
theorem RI.enter {h : Int} {ss : List (Int × Int)} {m : Int} {D : Dk} {k : Nat} {s : Int × Int} (h1 : 1 ≤ h) (hsh : ∀ x ∈ ss, 0 ≤ x.1 ∧ x.1 < h ∧ 1 ≤ x.2) (hm : lawPk h ss ≤ m) (hks : ss[k]? = some s) (r : RI h ss m D (D.day * h + s.1) (k : Int)) :
    ∃ b D', enterM D k 0 = some (b, D') ∧ RI h ss m D' (D.day * h + s.1) ((k : Int) + 1) ∧ D'.day = D.day := by
  have rl := r.leave (D.day * h + s.1)
  have hu : ∀ x ∈ (leaveM D (D.day * h + s.1)).stays, D.day * h + s.1 < x.2.1 := fun x hx => by
    have := (List.mem_filter.mp hx).2
    simp only [Bool.not_eq_true', decide_eq_false_iff_not] at this
    omega
  have hlt := present_lt h1 hsh hks rl.st hu
  have hlen := rl.len
  have hpos : 0 < (leaveM D (D.day * h + s.1)).vac.length := by omega
  have hday : (leaveM D (D.day * h + s.1)).day = D.day := rfl
  generalize hL : leaveM D (D.day * h + s.1) = L at rl hu hlt hlen hpos hday
  obtain ⟨b, vr, hv⟩ : ∃ b vr, L.vac = b :: vr := by
    cases e : L.vac with
    | nil => rw [e] at hpos; simp at hpos
    | cons b vr => exact ⟨b, vr, rfl⟩
  have hch : chooseM L = some (b, { L with vac := vr }) := by
    unfold chooseM
    rw [rl.pol]
    simp only
    rw [hv]
  have hnd := rl.nd
  rw [hv] at hnd hlen
  have hbn : ¬ b ∈ L.stays.map (·.1) := fun z => (List.nodup_cons.mp hnd).1 (List.mem_append_right _ z)
  have hput : putS L.stays (b, D.day * h + s.1 + s.2 + 0, D.day * h + s.1, (k : Int)) = L.stays ++ [(b, D.day * h + s.1 + s.2 + 0, D.day * h + s.1, (k : Int))] := by
    unfold putS
    rw [if_neg]
    rw [List.any_eq_true]
    rintro ⟨x, hx, e⟩
    exact hbn (List.mem_map.mpr ⟨x, hx, of_decide_eq_true e⟩)
  refine ⟨b, { L with vac := vr, stays := L.stays ++ [(b, D.day * h + s.1 + s.2 + 0, D.day * h + s.1, (k : Int))], used := putN L.used b }, ?_, ?_, hday⟩
  · unfold enterM
    rw [r.hs, hks]
    simp only
    rw [r.hh, hL, hch]
    simp only
    rw [hput]
  · refine ⟨rl.pol, rl.hh, rl.hs, ⟨fun x hx => ?_, ?_, fun x hx => ?_⟩, ?_, ?_⟩
    · rcases List.mem_append.mp hx with hx | hx
      · exact rl.st.of x hx
      · rw [show x = (b, D.day * h + s.1 + s.2 + 0, D.day * h + s.1, (k : Int)) by simpa using hx]
        exact ⟨k, s, D.day, hks, rfl, rfl, by simp only; omega⟩
    · rw [List.map_append, List.nodup_append]
      refine ⟨rl.st.nd, by simp, fun a ha c hc e => ?_⟩
      obtain ⟨x, hx, rfl⟩ := List.mem_map.mp ha
      have hc : c = (D.day * h + s.1, (k : Int)) := by simpa using hc
      subst hc
      have e1 := congrArg (fun z : Int × Int => z.1) e
      have e2 := congrArg (fun z : Int × Int => z.2) e
      simp only at e1 e2
      have := rl.st.bf x hx
      omega
    · rcases List.mem_append.mp hx with hx | hx
      · have := rl.st.bf x hx
        omega
      · rw [show x = (b, D.day * h + s.1 + s.2 + 0, D.day * h + s.1, (k : Int)) by simpa using hx]
        right
        exact ⟨rfl, by show (k : Int) < k + 1; omega⟩
    · show vr.length + (L.stays ++ [_]).length = _
      rw [List.length_append]
      simp only [List.length_cons, List.length_nil] at hlen ⊢
      omega
    · show (vr ++ (L.stays ++ [((b, D.day * h + s.1 + s.2 + 0, D.day * h + s.1, (k : Int)) : St4)]).map (fun x : St4 => x.1)).Nodup
      rw [List.map_append, ← List.append_assoc, List.nodup_append]
      have hnd2 := List.nodup_cons.mp hnd
      refine ⟨hnd2.2, by simp, fun a ha c hc e => ?_⟩
      have hc : c = b := by simpa using hc
      subst hc
      subst e
      exact hnd2.1 ha
/-- a run of calls in order -/
theorem RI.run {h : Int} {ss : List (Int × Int)} {m : Int} (h1 : 1 ≤ h) (hsh : ∀ x ∈ ss, 0 ≤ x.1 ∧ x.1 < h ∧ 1 ≤ x.2) (hm : lawPk h ss ≤ m) : ∀ (L : List (Int × Int)) (D : Dk) (cs : List Cl3), L.Pairwise (fun a b => a.1 < b.1 ∨ (a.1 = b.1 ∧ a.2 < b.2)) →
    (∀ e ∈ L, ∃ (k : Nat) (s : Int × Int), ss[k]? = some s ∧ e = (s.1, (k : Int))) → (∀ e ∈ L, RI h ss m D (D.day * h + e.1) e.2) → ∀ T k, RI h ss m D T k → (∀ e ∈ L, D.day * h + e.1 < T) →
    ∃ cs' D', (L.map (·.2)).foldl stepM (some (cs, D)) = some (cs', D') ∧ D'.day = D.day ∧ RI h ss m D' T k
  | [], D, cs, _, _, _, T, k, hT, _ => ⟨cs, D, rfl, rfl, hT⟩
  | e :: L, D, cs, hp, hf, hr, T, k, hT, hb => by
    obtain ⟨hp1, hp2⟩ := List.pairwise_cons.mp hp
    obtain ⟨kk, s, hks, rfl⟩ := hf e (by simp)
    obtain ⟨b, D1, he, r1, hd1⟩ := RI.enter h1 hsh hm hks (hr (s.1, (kk : Int)) (List.mem_cons_self ..))
    have hb0 := hb _ (List.mem_cons_self ..)
    obtain ⟨cs', D', h2, h3, h4⟩ := RI.run h1 hsh hm L D1 (cs ++ [(D.day, (kk : Int), b)]) hp2 (fun e he => hf e (List.mem_cons_of_mem _ he)) (fun e2 he2 => by
      rw [hd1]
      have := hp1 e2 he2
      simp only at this
      exact r1.mono (by omega)) T k (r1.mono (by left; exact hb0)) (fun e2 he2 => by rw [hd1]; exact hb e2 (List.mem_cons_of_mem _ he2))
    refine ⟨cs', D', ?_, by rw [h3, hd1], h4⟩
    rw [List.map_cons, List.foldl_cons]
    have : stepM (some (cs, D)) (kk : Int) = some (cs ++ [(D.day, (kk : Int), b)], D1) := by
      unfold stepM
      show (enterM D ((kk : Int)).toNat 0).map _ = _
      rw [show ((kk : Int)).toNat = kk from rfl, he]
      rfl
    rw [this]
    exact h2
theorem ordM_pw (ss : List (Int × Int)) : (ordM ss).Pairwise (fun a b => a.1 < b.1 ∨ (a.1 = b.1 ∧ a.2 < b.2)) := by
  have h1 : (ordM ss).Pairwise (fun a b => PySem.W.dataLe false shD a b = true) := PySem.W.sort_pairwise (PySem.W.sortLe_total _ _ _) _
  have hnd : (ordM ss).Nodup := by
    rw [show (ordM ss).Nodup ↔ (ss.mapIdx fun k s => (s.1, (k : Int))).Nodup from (List.mergeSort_perm _ _).nodup_iff]
    rw [List.nodup_iff_pairwise_ne, List.pairwise_iff_getElem]
    intro i j hi hj hij e
    rw [List.getElem_mapIdx, List.getElem_mapIdx] at e
    have := congrArg (fun e : Int × Int => e.2) e
    simp only at this
    omega
  rw [List.nodup_iff_pairwise_ne] at hnd
  refine (h1.and hnd).imp (fun {a b} ⟨x, y⟩ => ?_)
  have x : (!ltP b a) = true := x
  rw [ltP_eq, Bool.not_eq_true', decide_eq_false_iff_not] at x
  by_cases e1 : a.1 = b.1
  · by_cases e2 : a.2 = b.2
    · exact absurd (Prod.ext e1 e2) y
    · omega
  · omega
theorem RI.day {h : Int} {ss : List (Int × Int)} {m : Int} (h1 : 1 ≤ h) (hsh : ∀ x ∈ ss, 0 ≤ x.1 ∧ x.1 < h ∧ 1 ≤ x.2) (hm : lawPk h ss ≤ m) {D : Dk} (r : RI h ss m D (D.day * h) 0) : ∃ cs D', dayM D = some (cs, D') ∧ RI h ss m D' (D'.day * h) 0 := by
  have hmul : (D.day + 1) * h = D.day * h + h := by rw [Int.add_mul, Int.one_mul]
  obtain ⟨cs, D1, e1, e2, e3⟩ := RI.run h1 hsh hm (ordM ss) D [] (ordM_pw ss) (fun e he => ordM_mem2 he) (fun e he => by
    obtain ⟨k, s, hks, rfl⟩ := ordM_mem2 he
    have := hsh s (List.mem_of_getElem? hks)
    exact r.mono (by simp only; omega)) ((D.day + 1) * h) 0 (r.mono (by omega)) (fun e he => by
    obtain ⟨k, s, hks, rfl⟩ := ordM_mem2 he
    have := hsh s (List.mem_of_getElem? hks)
    simp only
    omega)
  refine ⟨cs, endM D1, ?_, ?_⟩
  · unfold dayM runM arrL
    rw [r.hs, e1]
    rfl
  · have r4 : RI h ss m { D1 with day := D1.day + 1 } ((D.day + 1) * h) 0 := ⟨e3.pol, e3.hh, e3.hs, e3.st, e3.len, e3.nd⟩
    have := r4.leave ((D1.day + 1) * D1.h - 1)
    show RI h ss m (endM D1) ((D1.day + 1) * h) 0
    rw [e2] at this ⊢
    unfold endM
    rw [e2]
    exact this
theorem room_long {h : Int} {ss : List (Int × Int)} {m : Int} (h1 : 1 ≤ h) (hsh : ∀ x ∈ ss, 0 ≤ x.1 ∧ x.1 < h ∧ 1 ≤ x.2) (hm : lawPk h ss ≤ m) : ∀ n, ∃ D, daysM n (dk0 h ss (.long m) []) = some D ∧ RI h ss m D (D.day * h) 0
  | 0 => by
    refine ⟨_, rfl, rfl, rfl, rfl, ⟨fun x hx => (by cases hx), .nil, fun x hx => (by cases hx)⟩, ?_, ?_⟩
    · show (vac0 (.long m)).length + 0 = m.toNat
      unfold vac0
      rw [List.length_map, List.length_range]
      rfl
    · show (vac0 (.long m) ++ []).Nodup
      rw [List.append_nil]
      unfold vac0
      rw [List.nodup_iff_pairwise_ne, List.pairwise_iff_getElem]
      intro i j hi hj hij e
      rw [List.getElem_map, List.getElem_map, List.getElem_range, List.getElem_range] at e
      omega
  | n + 1 => by
    obtain ⟨D, e, r⟩ := room_long h1 hsh hm n
    obtain ⟨cs, D', e2, r2⟩ := RI.day h1 hsh hm r
    refine ⟨D', ?_, r2⟩
    show (daysM n _).bind (fun D' => (dayM D').map (·.2)) = _
    rw [e]
    show (dayM D).map (·.2) = _
    rw [e2]
    rfl
/-- least and last never lack a berth -/
theorem choose_open {D : Dk} (h : D.pol.open = true) : ∃ b D', chooseM D = some (b, D') := by
  unfold chooseM
  cases e : D.pol with
  | least => exact ⟨_, _, rfl⟩
  | last =>
    simp only
    cases D.vac.getLast? with
    | none => exact ⟨_, _, rfl⟩
    | some b => exact ⟨_, _, rfl⟩
  | long m => rw [e] at h; cases h
theorem run_open : ∀ (L : List Int) (D : Dk) (cs : List Cl3), D.pol.open = true → (∀ s ∈ L, ∃ k : Nat, k < D.ss.length ∧ s = (k : Int)) → ∃ cs' D', L.foldl stepM (some (cs, D)) = some (cs', D') ∧ D'.pol = D.pol ∧ D'.ss = D.ss
  | [], D, cs, _, _ => ⟨cs, D, rfl, rfl, rfl⟩
  | s :: L, D, cs, h, hs => by
    obtain ⟨k, hk, rfl⟩ := hs s (by simp)
    obtain ⟨b, D1, he⟩ : ∃ b D1, enterM D k 0 = some (b, D1) := by
      unfold enterM
      rw [List.getElem?_eq_getElem hk]
      simp only
      obtain ⟨b, D2, e⟩ := choose_open (D := leaveM D (D.day * D.h + D.ss[k].1)) h
      rw [e]
      exact ⟨_, _, rfl⟩
    have st := SameT.enter he
    obtain ⟨cs', D', e1, e2, e3⟩ := run_open L D1 (cs ++ [(D.day, (k : Int), b)]) (by rw [st.pol]; exact h) (fun s2 h2 => by rw [st.ss]; exact hs s2 (List.mem_cons_of_mem _ h2))
    refine ⟨cs', D', ?_, by rw [e2, st.pol], by rw [e3, st.ss]⟩
    rw [List.foldl_cons]
    have : stepM (some (cs, D)) (k : Int) = some (cs ++ [(D.day, (k : Int), b)], D1) := by
      unfold stepM
      show (enterM D ((k : Int)).toNat 0).map _ = _
      rw [show ((k : Int)).toNat = k from rfl, he]
      rfl
    rw [this]
    exact e1
theorem room_open {D0 : Dk} (h : D0.pol.open = true) : ∀ n, ∃ D, daysM n D0 = some D ∧ D.pol = D0.pol
  | 0 => ⟨_, rfl, rfl⟩
  | n + 1 => by
    obtain ⟨D, e, hp⟩ := room_open h n
    obtain ⟨cs, D1, e1, e2, e3⟩ := run_open (arrL D.ss) D [] (by rw [hp]; exact h) (fun s hs => arrL_mem hs)
    refine ⟨endM D1, ?_, by show D1.pol = _; rw [e2, hp]⟩
    show (daysM n _).bind (fun D' => (dayM D').map (·.2)) = _
    rw [e]
    show (dayM D).map (·.2) = _
    unfold dayM runM
    rw [e1]
    rfl
theorem mathOk : MathOk where
  tab := fun h1 h2 hm d => tab_ok h1 h2 hm d
  pol := fun h1 _ hm d dp => pol_ok h1 hm d dp
  room := fun {h most ss pol bs} h1 h2 hm d dp ds n => by
    cases pol with
    | least => obtain ⟨D, e, _⟩ := room_open (D0 := dk0 h ss .least bs) rfl n; exact ⟨D, e⟩
    | last => obtain ⟨D, e, _⟩ := room_open (D0 := dk0 h ss .last bs) rfl n; exact ⟨D, e⟩
    | long m =>
      have hs := ds.s
      have hbs : bs = [] := by
        have hs : ((bs.map shD).all (isStrangerD h) && ((false || (bs.map shD).isEmpty) && upB ((bs.map shD).map shOf))) = true := hs
        rw [Bool.and_eq_true, Bool.and_eq_true] at hs
        cases bs with
        | nil => rfl
        | cons b bs => have := hs.2.1; cases this
      subst hbs
      obtain ⟨D, e, _⟩ := room_long h1 (fun x hx => by have := d.sh x hx; omega) (dp m rfl).1 n
      exact ⟨D, e⟩
end Ba

set_option maxHeartbeats 400000
namespace Ba
open PySem PySem.Spec PyProof.Rows L2
theorem rev_ind {α : Type} {P : List α → Prop} (h0 : P []) (h1 : ∀ l a, P l → P (l ++ [a])) (l : List α) : P l := by
  have : ∀ r : List α, P r.reverse := fun r => by
    induction r with
    | nil => exact h0
    | cons a r ih => rw [List.reverse_cons]; exact h1 _ _ ih
  have := this l.reverse
  rwa [List.reverse_reverse] at this
/-! ### operations of harbours, in the mirror -/
inductive Op where
  | adv (n : Nat)
  | rep (ss : List (Int × Int))
def opD (h : Int) : Op → PyData
  | .adv n => .tuple [.str "advance", .int (n : Int)]
  | .rep ss => .tuple [.str "replace", tbD h ss]
def stepB (B : Hb) : Op → Option Hb
  | .adv n => (daysM n B.D).map (advM B n)
  | .rep ss => some (repM B ss)
def opsB (B : Hb) (l : List Op) : Option Hb := l.foldlM stepB B
theorem opsB_nil (B : Hb) : opsB B [] = some B := rfl
theorem opsB_cons (B : Hb) (o : Op) (l : List Op) : opsB B (o :: l) = (stepB B o).bind fun B1 => opsB B1 l := rfl
theorem opsB_snoc (B : Hb) (l : List Op) (o : Op) : opsB B (l ++ [o]) = (opsB B l).bind fun B1 => stepB B1 o := by
  induction l generalizing B with
  | nil =>
    show (stepB B o).bind (fun B1 => opsB B1 []) = (some B).bind fun B1 => stepB B1 o
    show (stepB B o).bind some = stepB B o
    cases stepB B o <;> rfl
  | cons a l ih =>
    rw [List.cons_append, opsB_cons, opsB_cons]
    cases stepB B a with
    | none => rfl
    | some B1 => exact ih B1
theorem opsB_take {B : Hb} {l : List Op} {i : Nat} {o : Op} (h : l[i]? = some o) : opsB B (l.take (i + 1)) = (opsB B (l.take i)).bind fun B1 => stepB B1 o := by
  rw [List.take_add_one, h]
  exact opsB_snoc _ _ _
theorem opsB_pre {B B' : Hb} {l : List Op} (h : opsB B l = some B') (i : Nat) : ∃ B1, opsB B (l.take i) = some B1 := by
  induction l generalizing B i with
  | nil => exact ⟨B, by simp [opsB]⟩
  | cons o l ih =>
    cases i with
    | zero => exact ⟨B, rfl⟩
    | succ i =>
      rw [opsB_cons] at h
      rw [List.take_succ_cons, opsB_cons]
      cases e : stepB B o with
      | none => rw [e] at h; cases h
      | some B1 =>
        rw [e] at h
        exact ih h i
/-- what holds of a harbour throughout -/
structure GoodB (h : Int) (pol : Pol) (N : Nat) (B : Hb) : Prop where
  hh : B.h = h
  dh : B.D.h = h
  pp : B.pol = pol
  dp : B.D.pol = pol
  ds : B.D.ss = B.ss
  tab : TabV h B.ss
  ok : DkOk N B.D
  day : B.day = B.D.day
theorem GoodB.mono {h : Int} {pol : Pol} {N M : Nat} {B : Hb} (g : GoodB h pol N B) (hn : N ≤ M) : GoodB h pol M B := ⟨g.hh, g.dh, g.pp, g.dp, g.ds, g.tab, g.ok.mono hn, g.day⟩
theorem GoodB.tabD {h : Int} {pol : Pol} {N : Nat} {B : Hb} (g : GoodB h pol N B) : TabOk B.D.h B.D.ss := by rw [g.dh, g.ds]; exact g.tab.ok
/-- an operation that the program accepts -/
def OpOk (h : Int) (pol : Pol) (M : Nat) : Op → Prop
  | .adv n => 1 ≤ n ∧ n ≤ M
  | .rep ss => isTableD (tbD h ss) = true ∧ isPolicyD h ss (polD pol) = true
theorem tabV_of {h : Int} {ss : List (Int × Int)} (e : isTableD (tbD h ss) = true) : TabV h ss := by
  unfold isTableD at e
  rw [Bool.and_eq_true] at e
  have := (isShapeD_eq e.1).2
  rw [tabOf_tb] at this
  exact this
theorem GoodB.step {h : Int} {pol : Pol} {N M : Nat} {B B' : Hb} {o : Op} (g : GoodB h pol N B) (ho : OpOk h pol M o) (e : stepB B o = some B') : GoodB h pol (N + M * 24) B' := by
  cases o with
  | adv n =>
    have e : (daysM n B.D).map (advM B n) = some B' := e
    cases e2 : daysM n B.D with
    | none => rw [e2] at e; cases e
    | some D' =>
      rw [e2] at e
      cases e
      obtain ⟨k1, k2, k3⟩ := daysM_ok g.ok e2
      have hn : n * B.D.ss.length ≤ M * 24 := Nat.mul_le_mul ho.2 (by rw [g.ds]; exact g.tab.n)
      exact ⟨g.hh, k2.h.trans g.dh, g.pp, k2.pol.trans g.dp, k2.ss.trans g.ds, g.tab, k1.mono (by omega), by
        show B.day + n = D'.day
        rw [k3, g.day]⟩
  | rep ss =>
    cases e
    exact ⟨g.hh, g.hh, g.pp, g.dp, rfl, tabV_of ho.1, ⟨g.ok.nd, Nat.le_trans g.ok.sv (by omega), Nat.le_trans g.ok.us (by omega)⟩, g.day⟩
theorem step_op {B B' : Hb} {o : Op} (h : stepB B o = some B') : B'.hist = B.hist ++ [⟨opD B.h o, B.h, B.ss, B.D, B.day⟩] ∧ B'.pol = B.pol ∧ undoM B' B.hist ⟨opD B.h o, B.h, B.ss, B.D, B.day⟩ = B ∧ B'.h = B.h := by
  cases o with
  | adv n =>
    have e : (daysM n B.D).map (advM B n) = some B' := h
    cases e2 : daysM n B.D with
    | none => rw [e2] at e; cases e
    | some D' =>
      rw [e2] at e
      cases e
      exact ⟨rfl, rfl, rfl, rfl⟩
  | rep ss =>
    cases h
    exact ⟨rfl, rfl, rfl, rfl⟩
theorem ops_hist {B0 : Hb} (h0 : B0.hist = []) : ∀ {l : List Op} {B : Hb}, opsB B0 l = some B → B.hist.map (·.op) = l.map (opD B0.h) ∧ B.h = B0.h ∧ B.pol = B0.pol := by
  intro l
  refine rev_ind (P := fun l => ∀ {B : Hb}, opsB B0 l = some B → B.hist.map (·.op) = l.map (opD B0.h) ∧ B.h = B0.h ∧ B.pol = B0.pol) ?_ ?_ l
  · intro B h
    cases h
    rw [h0]
    exact ⟨rfl, rfl, rfl⟩
  · intro l o ih B h
    rw [opsB_snoc] at h
    cases e : opsB B0 l with
    | none => rw [e] at h; cases h
    | some B1 =>
      rw [e] at h
      obtain ⟨a1, a2, a3⟩ := ih e
      obtain ⟨b1, b2, b3, b4⟩ := step_op (show stepB B1 o = some B from h)
      rw [b1, List.map_append, List.map_append, a1, a2]
      exact ⟨rfl, b4.trans a2, b2.trans a3⟩
theorem good_ops {h : Int} {pol : Pol} {N M : Nat} {B0 : Hb} (g : GoodB h pol N B0) : ∀ {l : List Op} {B : Hb}, (∀ o ∈ l, OpOk h pol M o) → opsB B0 l = some B → GoodB h pol (N + l.length * (M * 24)) B := by
  intro l
  refine rev_ind (P := fun l => ∀ {B : Hb}, (∀ o ∈ l, OpOk h pol M o) → opsB B0 l = some B → GoodB h pol (N + l.length * (M * 24)) B) ?_ ?_ l
  · intro B _ h
    cases h
    exact g.mono (by omega)
  · intro l o ih B ho h
    rw [opsB_snoc] at h
    cases e : opsB B0 l with
    | none => rw [e] at h; cases h
    | some B1 =>
      rw [e] at h
      have g1 := ih (fun o ho2 => ho o (List.mem_append_left _ ho2)) e
      have := g1.step (ho o (by simp)) h
      refine this.mono ?_
      rw [List.length_append, Nat.add_mul]
      show _ ≤ N + (_ + 1 * (M * 24))
      omega
/-- the last operation undone -/
theorem ops_undo {B0 B : Hb} {l : List Op} {o : Op} (h : opsB B0 (l ++ [o]) = some B) : ∃ B1 e, opsB B0 l = some B1 ∧ B.hist = B1.hist ++ [e] ∧ undoM B B1.hist e = B1 := by
  rw [opsB_snoc] at h
  cases e : opsB B0 l with
  | none => rw [e] at h; cases h
  | some B1 =>
    rw [e] at h
    obtain ⟨b1, b2, b3, b4⟩ := step_op (show stepB B1 o = some B from h)
    exact ⟨B1, _, rfl, b1, b3⟩
/-! ### room under 200 berths -/
def cS (s : Int) : Int := if s = 0 then 10 else 2
/-- what a run of drawn tables keeps; L: the ships that are still to come today -/
structure RM (h m : Int) (D : Dk) (L : List Int) : Prop where
  pol : D.pol = .long m
  hh : D.h = h
  st : ∀ x ∈ D.stays, 0 ≤ x.2.2.2 ∧ x.2.2.2 < 24 ∧ x.2.2.1 / h ≤ D.day ∧ (x.2.2.1 / h = D.day → x.2.2.2 ∉ L) ∧ x.2.1 ≤ x.2.2.1 + cS x.2.2.2 * h
  nd : (D.stays.map fun x => (x.2.2.1 / h, x.2.2.2)).Nodup
  len : D.vac.length + D.stays.length = m.toNat
  nb : (D.vac ++ D.stays.map (·.1)).Nodup
theorem RM.mono {h m : Int} {D : Dk} {L L' : List Int} (r : RM h m D L) (hl : ∀ x ∈ L', x ∈ L) : RM h m D L' :=
  ⟨r.pol, r.hh, fun x hx => by
    obtain ⟨a1, a2, a3, a4, a5⟩ := r.st x hx
    exact ⟨a1, a2, a3, fun e z => a4 e (hl _ z), a5⟩, r.nd, r.len, r.nb⟩
theorem RM.leave {h m : Int} {D : Dk} {L : List Int} (r : RM h m D L) (u : Int) : RM h m (leaveM D u) L := by
  have hl : D.pol.isLeast = false := by rw [r.pol]; rfl
  have hnd := List.nodup_append.mp r.nb
  have hsp := leave_split D.stays u
  have hlen := r.len
  refine ⟨r.pol, r.hh, fun x hx => r.st x (List.mem_filter.mp hx).1, (List.Sublist.map _ List.filter_sublist).nodup r.nd, ?_, ?_⟩
  · show (if D.pol.isLeast = true then D.vac else D.vac ++ (lvs D.stays u).map (·.2.2.2)).length + (D.stays.filter fun s => !decide (s.2.1 ≤ u)).length = _
    rw [hl]
    simp only [Bool.false_eq_true, if_false]
    rw [List.length_append, List.length_map]
    omega
  · show ((if D.pol.isLeast = true then D.vac else D.vac ++ (lvs D.stays u).map (·.2.2.2)) ++ (D.stays.filter fun s => !decide (s.2.1 ≤ u)).map (·.1)).Nodup
    rw [hl]
    simp only [Bool.false_eq_true, if_false]
    have hsub : ∀ b ∈ (lvs D.stays u).map (·.2.2.2), b ∈ D.stays.map (·.1) := fun b hb => by
      obtain ⟨l, hl1, rfl⟩ := List.mem_map.mp hb
      obtain ⟨s, hs, rfl, _⟩ := lvs_sub hl1
      exact List.mem_map.mpr ⟨s, hs, rfl⟩
    rw [List.nodup_append, List.nodup_append]
    refine ⟨⟨hnd.1, lvs_nd hnd.2.1, fun a ha b hb => hnd.2.2 a ha b (hsub b hb)⟩, (List.Sublist.map _ List.filter_sublist).nodup hnd.2.1, fun a ha b hb e => ?_⟩
    obtain ⟨s, hs, rfl⟩ := List.mem_map.mp hb
    obtain ⟨hs1, hs2⟩ := List.mem_filter.mp hs
    subst e
    rcases List.mem_append.mp ha with ha | ha
    · exact hnd.2.2 _ ha _ (List.mem_map.mpr ⟨s, hs1, rfl⟩) rfl
    · have := (lvs_mem hnd.2.1 hs1).mp ha
      rw [decide_eq_true this] at hs2
      cases hs2
/-- where a stay is counted -/
def code (day : Int) (p : Int × Int) : Int := if p.2 = 0 then p.1 - day + 10 else 11 + (p.2 - 1) * 3 + (p.1 - day + 2)
theorem RM.few {h m : Int} (h1 : 1 ≤ h) {D : Dk} {L : List Int} (r : RM h m D L) {t : Int} (ht : D.day * h ≤ t) (hu : ∀ x ∈ D.stays, t < x.2.1) : D.stays.length ≤ 80 := by
  have hb : ∀ x ∈ D.stays, -(cS x.2.2.2) ≤ x.2.2.1 / h - D.day := fun x hx => by
    obtain ⟨a1, a2, a3, a4, a5⟩ := r.st x hx
    have := hu x hx
    have e1 : (D.day - cS x.2.2.2) * h ≤ x.2.2.1 := by rw [Int.sub_mul]; omega
    have := (Int.le_ediv_iff_mul_le (by omega : 0 < h)).mpr e1
    omega
  have key : (D.stays.map fun x => code D.day (x.2.2.1 / h, x.2.2.2)).Nodup := by
    rw [show (D.stays.map fun x => code D.day (x.2.2.1 / h, x.2.2.2)) = (D.stays.map fun x => (x.2.2.1 / h, x.2.2.2)).map (code D.day) by rw [List.map_map]; rfl]
    rw [List.nodup_iff_pairwise_ne, List.pairwise_map]
    have hnd := r.nd
    rw [List.nodup_iff_pairwise_ne] at hnd
    refine List.Pairwise.imp_of_mem ?_ hnd
    intro p q hp hq hne e
    obtain ⟨x, hx, rfl⟩ := List.mem_map.mp hp
    obtain ⟨y, hy, rfl⟩ := List.mem_map.mp hq
    have b1 := hb x hx
    have b2 := hb y hy
    obtain ⟨a1, a2, a3, _, _⟩ := r.st x hx
    obtain ⟨c1, c2, c3, _, _⟩ := r.st y hy
    unfold code cS at *
    simp only at e
    apply hne
    by_cases z1 : x.2.2.2 = 0
    · by_cases z2 : y.2.2.2 = 0
      · rw [if_pos z1] at e b1
        rw [if_pos z2] at e b2
        exact Prod.ext (by simp only; omega) (by simp only; omega)
      · rw [if_pos z1] at e b1
        rw [if_neg z2] at e b2
        omega
    · by_cases z2 : y.2.2.2 = 0
      · rw [if_neg z1] at e b1
        rw [if_pos z2] at e b2
        omega
      · rw [if_neg z1] at e b1
        rw [if_neg z2] at e b2
        exact Prod.ext (by simp only; omega) (by simp only; omega)
  have := ints_count 80 0 _ key (fun c hc => by
    obtain ⟨x, hx, rfl⟩ := List.mem_map.mp hc
    have b1 := hb x hx
    obtain ⟨a1, a2, a3, _, _⟩ := r.st x hx
    unfold code cS at *
    simp only
    by_cases z1 : x.2.2.2 = 0
    · rw [if_pos z1] at b1 ⊢
      omega
    · rw [if_neg z1] at b1 ⊢
      omega)
  rwa [List.length_map] at this
theorem RM.enter {h m : Int} (h1 : 1 ≤ h) (hm : 81 ≤ m) {D : Dk} {k : Nat} {s : Int × Int} {L : List Int} (r : RM h m D ((k : Int) :: L)) (hks : D.ss[k]? = some s) (hk : k < 24) (hL : (k : Int) ∉ L) (hs : 0 ≤ s.1 ∧ s.1 < h ∧ 1 ≤ s.2 ∧ s.2 ≤ cS (k : Int) * h) :
    ∃ b D', enterM D k 0 = some (b, D') ∧ RM h m D' L ∧ D'.day = D.day ∧ D'.ss = D.ss := by
  have rl := r.leave (D.day * h + s.1)
  have hu : ∀ x ∈ (leaveM D (D.day * h + s.1)).stays, D.day * h + s.1 < x.2.1 := fun x hx => by
    have := (List.mem_filter.mp hx).2
    simp only [Bool.not_eq_true', decide_eq_false_iff_not] at this
    omega
  have hlt := rl.few h1 (t := D.day * h + s.1) (show D.day * h ≤ _ by omega) hu
  have hlen := rl.len
  have hpos : 0 < (leaveM D (D.day * h + s.1)).vac.length := by omega
  have hday : (leaveM D (D.day * h + s.1)).day = D.day := rfl
  have hsL : (leaveM D (D.day * h + s.1)).ss = D.ss := rfl
  generalize hLe : leaveM D (D.day * h + s.1) = Le at rl hu hlt hlen hpos hday hsL
  obtain ⟨b, vr, hv⟩ : ∃ b vr, Le.vac = b :: vr := by
    cases e : Le.vac with
    | nil => rw [e] at hpos; simp at hpos
    | cons b vr => exact ⟨b, vr, rfl⟩
  have hch : chooseM Le = some (b, { Le with vac := vr }) := by
    unfold chooseM
    rw [rl.pol]
    simp only
    rw [hv]
  have hnd := rl.nb
  rw [hv] at hnd hlen
  have hbn : ¬ b ∈ Le.stays.map (·.1) := fun z => (List.nodup_cons.mp hnd).1 (List.mem_append_right _ z)
  have hput : putS Le.stays (b, D.day * h + s.1 + s.2 + 0, D.day * h + s.1, (k : Int)) = Le.stays ++ [(b, D.day * h + s.1 + s.2 + 0, D.day * h + s.1, (k : Int))] := by
    unfold putS
    rw [if_neg]
    rw [List.any_eq_true]
    rintro ⟨x, hx, e⟩
    exact hbn (List.mem_map.mpr ⟨x, hx, of_decide_eq_true e⟩)
  have hdiv : (D.day * h + s.1) / h = D.day := by
    rw [Int.add_comm, Int.add_mul_ediv_right _ _ (by omega : h ≠ 0), Int.ediv_eq_zero_of_lt hs.1 hs.2.1, Int.zero_add]
  refine ⟨b, { Le with vac := vr, stays := Le.stays ++ [(b, D.day * h + s.1 + s.2 + 0, D.day * h + s.1, (k : Int))], used := putN Le.used b }, ?_, ?_, hday, hsL⟩
  · unfold enterM
    rw [hks]
    simp only
    rw [r.hh, hLe, hch]
    simp only
    rw [hput]
  · refine ⟨rl.pol, rl.hh, fun x hx => ?_, ?_, ?_, ?_⟩
    · rcases List.mem_append.mp hx with hx | hx
      · obtain ⟨a1, a2, a3, a4, a5⟩ := rl.st x hx
        exact ⟨a1, a2, a3, fun e z => a4 e (List.mem_cons_of_mem _ z), a5⟩
      · rw [show x = (b, D.day * h + s.1 + s.2 + 0, D.day * h + s.1, (k : Int)) by simpa using hx]
        simp only
        rw [hdiv]
        refine ⟨by omega, by omega, by rw [hday]; omega, fun _ => hL, by omega⟩
    · rw [List.map_append, List.nodup_append]
      refine ⟨rl.nd, by simp, fun a ha c hc e => ?_⟩
      obtain ⟨x, hx, rfl⟩ := List.mem_map.mp ha
      have hc : c = ((D.day * h + s.1) / h, (k : Int)) := by simpa using hc
      subst hc
      rw [hdiv] at e
      have e1 := congrArg (fun z : Int × Int => z.1) e
      have e2 := congrArg (fun z : Int × Int => z.2) e
      simp only at e1 e2
      obtain ⟨a1, a2, a3, a4, a5⟩ := rl.st x hx
      exact a4 (by rw [hday]; exact e1) (by rw [e2]; simp)
    · show vr.length + (Le.stays ++ [_]).length = _
      rw [List.length_append]
      simp only [List.length_cons, List.length_nil] at hlen ⊢
      omega
    · show (vr ++ (Le.stays ++ [((b, D.day * h + s.1 + s.2 + 0, D.day * h + s.1, (k : Int)) : St4)]).map (fun x : St4 => x.1)).Nodup
      rw [List.map_append, ← List.append_assoc, List.nodup_append]
      have hnd2 := List.nodup_cons.mp hnd
      refine ⟨hnd2.2, by simp, fun a ha c hc e => ?_⟩
      have hc : c = b := by simpa using hc
      subst hc
      subst e
      exact hnd2.1 ha
theorem RM.run {h m : Int} (h1 : 1 ≤ h) (hm : 81 ≤ m) : ∀ (L : List Int) (D : Dk) (cs : List Cl3), L.Nodup → (∀ e ∈ L, ∃ (k : Nat) (s : Int × Int), D.ss[k]? = some s ∧ e = (k : Int) ∧ k < 24 ∧ 0 ≤ s.1 ∧ s.1 < h ∧ 1 ≤ s.2 ∧ s.2 ≤ cS (k : Int) * h) → RM h m D L →
    ∃ cs' D', L.foldl stepM (some (cs, D)) = some (cs', D') ∧ D'.day = D.day ∧ D'.ss = D.ss ∧ RM h m D' []
  | [], D, cs, _, _, r => ⟨cs, D, rfl, rfl, rfl, r⟩
  | e :: L, D, cs, hn, hf, r => by
    obtain ⟨hn1, hn2⟩ := List.nodup_cons.mp hn
    obtain ⟨kk, s, hks, rfl, hk, hs⟩ := hf e (by simp)
    obtain ⟨b, D1, he, r1, hd1, hs1⟩ := RM.enter h1 hm r hks hk hn1 hs
    obtain ⟨cs', D', h2, h3, h4, h5⟩ := RM.run h1 hm L D1 (cs ++ [(D.day, (kk : Int), b)]) hn2 (fun e he => by rw [hs1]; exact hf e (List.mem_cons_of_mem _ he)) r1
    refine ⟨cs', D', ?_, by rw [h3, hd1], by rw [h4, hs1], h5⟩
    rw [List.foldl_cons]
    have : stepM (some (cs, D)) (kk : Int) = some (cs ++ [(D.day, (kk : Int), b)], D1) := by
      unfold stepM
      show (enterM D ((kk : Int)).toNat 0).map _ = _
      rw [show ((kk : Int)).toNat = kk from rfl, he]
      rfl
    rw [this]
    exact h2
theorem draw_cS {h most : Int} {ss : List (Int × Int)} (d : DrawT h most ss) {k : Nat} {s : Int × Int} (e : ss[k]? = some s) : s.2 ≤ cS (k : Int) * h := by
  unfold cS
  cases k with
  | zero => exact (d.sh s (List.mem_of_getElem? e)).2.2.2
  | succ k =>
    rw [if_neg (by omega)]
    refine d.tl s (List.mem_of_getElem? (i := k) ?_)
    rw [List.getElem?_tail]
    exact e
theorem arrL_nd (ss : List (Int × Int)) : (arrL ss).Nodup := by
  have hp : (arrL ss).Perm ((ss.mapIdx fun k s => (s.1, (k : Int))).map (·.2)) := (List.mergeSort_perm _ _).map _
  rw [hp.nodup_iff]
  rw [List.nodup_iff_pairwise_ne, List.pairwise_iff_getElem]
  intro i j hi hj hij e
  rw [List.getElem_map, List.getElem_map, List.getElem_mapIdx, List.getElem_mapIdx] at e
  simp only at e
  omega
/-- a day of a drawn table -/
theorem RM.day {h m most : Int} (h1 : 1 ≤ h) (hm : 81 ≤ m) (hmo : most ≤ 24) {D : Dk} (dt : DrawT h most D.ss) (r : ∀ L, RM h m D L) : ∃ cs D', dayM D = some (cs, D') ∧ D'.ss = D.ss ∧ ∀ L, RM h m D' L := by
  obtain ⟨cs, D1, e1, e2, e4, e3⟩ := RM.run h1 hm (arrL D.ss) D [] (arrL_nd _) (fun e he => by
    obtain ⟨p, hp, rfl⟩ := List.mem_map.mp he
    obtain ⟨k, s, hks, rfl⟩ := ordM_mem2 hp
    have := dt.sh s (List.mem_of_getElem? hks)
    have hl := (List.getElem?_eq_some_iff.mp hks).1
    have := dt.n
    exact ⟨k, s, hks, rfl, by omega, by omega, by omega, by omega, draw_cS dt hks⟩) (r _)
  refine ⟨cs, endM D1, ?_, e4, fun L => ?_⟩
  · unfold dayM runM
    rw [e1]
    rfl
  · have r4 : RM h m { D1 with day := D1.day + 1 } L := ⟨e3.pol, e3.hh, fun x hx => by
      obtain ⟨a1, a2, a3, a4, a5⟩ := e3.st x hx
      exact ⟨a1, a2, by show _ ≤ D1.day + 1; omega, fun z => by
        have z : x.2.2.1 / h = D1.day + 1 := z
        omega, a5⟩, e3.nd, e3.len, e3.nb⟩
    exact r4.leave ((D1.day + 1) * D1.h - 1)
/-- least and last never lack a berth; long does not lack one under drawn tables, with 81 berths -/
def Room (h : Int) (pol : Pol) (D : Dk) : Prop := pol.open = true ∨ ∃ m, pol = .long m ∧ 81 ≤ m ∧ ∀ L, RM h m D L
theorem Room.days {h most : Int} {pol : Pol} (h1 : 1 ≤ h) (hmo : most ≤ 24) {D : Dk} (hp : D.pol = pol) (dt : DrawT h most D.ss) (r : Room h pol D) : ∀ n, ∃ D', daysM n D = some D' ∧ Room h pol D' := by
  intro n
  rcases r with r | ⟨m, rfl, hm, r⟩
  · obtain ⟨D', e, _⟩ := room_open (D0 := D) (by rw [hp]; exact r) n
    exact ⟨D', e, .inl r⟩
  · have : ∃ D', daysM n D = some D' ∧ D'.ss = D.ss ∧ ∀ L, RM h m D' L := by
      induction n with
      | zero => exact ⟨D, rfl, rfl, r⟩
      | succ n ih =>
        obtain ⟨D1, e, es, r1⟩ := ih
        obtain ⟨cs, D2, e2, es2, r2⟩ := RM.day h1 hm hmo (D := D1) (by rw [es]; exact dt) r1
        refine ⟨D2, ?_, es2.trans es, r2⟩
        show (daysM n D).bind (fun D' => (dayM D').map (·.2)) = _
        rw [e]
        show (dayM D1).map (·.2) = _
        rw [e2]
        rfl
    obtain ⟨D', e, _, r'⟩ := this
    exact ⟨D', e, .inr ⟨m, rfl, hm, r'⟩⟩
theorem Room.rep {h : Int} {pol : Pol} {D : Dk} (r : Room h pol D) (ss : List (Int × Int)) : Room h pol { D with h := h, ss := ss } := by
  rcases r with r | ⟨m, rfl, hm, r⟩
  · exact .inl r
  · exact .inr ⟨m, rfl, hm, fun L => ⟨(r L).pol, rfl, (r L).st, (r L).nd, (r L).len, (r L).nb⟩⟩
theorem Room.zero {h : Int} {pol : Pol} {bs : List (Int × Int)} {ss : List (Int × Int)} (hp : pol.open = true ∨ pol = .long 200) (hb : pol.open = false → bs = []) : Room h pol (dk0 h ss pol bs) := by
  rcases hp with hp | rfl
  · exact .inl hp
  · have hb := hb rfl
    subst hb
    refine .inr ⟨200, rfl, by decide, fun L => ⟨rfl, rfl, fun x hx => (by cases hx), .nil, ?_, ?_⟩⟩
    · show (vac0 (.long 200)).length + 0 = _
      unfold vac0
      rw [List.length_map, List.length_range]
      rfl
    · show (vac0 (.long 200) ++ []).Nodup
      rw [List.append_nil]
      unfold vac0
      rw [List.nodup_iff_pairwise_ne, List.pairwise_iff_getElem]
      intro i j hi hj hij e
      rw [List.getElem_map, List.getElem_map, List.getElem_range, List.getElem_range] at e
      omega
/-- long with 200 berths is a policy for every drawn table -/
theorem pol200_ok {h most : Int} {ss : List (Int × Int)} {pol : Pol} (h1 : 1 ≤ h) (hmo : most ≤ 24) (d : DrawT h most ss) (hp : pol.open = true ∨ pol = .long 200) : isPolicyD h ss (polD pol) = true ∧ PolOk pol := by
  rcases hp with hp | rfl
  · cases pol with
    | least => exact ⟨rfl, fun m z => nomatch z⟩
    | last => exact ⟨rfl, fun m z => nomatch z⟩
    | long m => cases hp
  · refine ⟨?_, fun m z => by injection z with z; omega⟩
    have h2 := peakM_le (ss := ss) h1 (fun x hx => by have := d.sh x hx; omega)
    have h3 := lawPk_le h1 hmo d
    show (PyData.eqv (.str "long") (.str "long") && (decide (peakM h ss ≤ 200) && decide ((200 : Int) ≤ 200))) = true
    rw [show PyData.eqv (.str "long") (.str "long") = true from rfl, decide_eq_true (by omega : peakM h ss ≤ 200)]
    rfl
/-- the tables of the operations are drawn ones -/
def OpsDr (h : Int) (ops : List Op) : Prop := ∀ ss, Op.rep ss ∈ ops → DrawT h 24 ss
theorem room_ops {h : Int} {pol : Pol} {N M : Nat} {B0 : Hb} (h1 : 1 ≤ h) (g0 : GoodB h pol N B0) (r0 : Room h pol B0.D) (d0 : DrawT h 24 B0.ss) : ∀ {ops : List Op} {B : Hb}, (∀ o ∈ ops, OpOk h pol M o) → OpsDr h ops → opsB B0 ops = some B → Room h pol B.D ∧ DrawT h 24 B.ss := by
  intro ops
  refine rev_ind (P := fun ops => ∀ {B : Hb}, (∀ o ∈ ops, OpOk h pol M o) → OpsDr h ops → opsB B0 ops = some B → Room h pol B.D ∧ DrawT h 24 B.ss) ?_ ?_ ops
  · intro B _ _ e
    cases e
    exact ⟨r0, d0⟩
  · intro l o ih B ho hd e
    rw [opsB_snoc] at e
    cases e1 : opsB B0 l with
    | none => rw [e1] at e; cases e
    | some B1 =>
      rw [e1] at e
      have ho1 : ∀ o ∈ l, OpOk h pol M o := fun o h => ho o (List.mem_append_left _ h)
      obtain ⟨r1, d1⟩ := ih ho1 (fun ss h => hd ss (List.mem_append_left _ h)) e1
      have g1 := good_ops g0 ho1 e1
      have e : stepB B1 o = some B := e
      cases o with
      | adv n =>
        obtain ⟨D', e2, e3⟩ := Room.days (most := 24) h1 (by decide) g1.dp (by rw [g1.ds]; exact d1) r1 n
        have e : (daysM n B1.D).map (advM B1 n) = some B := e
        rw [e2] at e
        cases e
        exact ⟨e3, d1⟩
      | rep ss =>
        cases e
        refine ⟨?_, hd ss (by simp)⟩
        have := r1.rep (h := h) ss
        show Room h pol { B1.D with h := B1.h, ss := ss }
        rw [g1.hh]
        exact this
end Ba

set_option maxHeartbeats 400000
namespace Ba
open PySem PySem.Spec PyProof.Rows L2
theorem wide_tb {h : Int} {ss : List (Int × Int)} (hn : ss.length ≤ 24) : wideD (tbD h ss) ≤ 24 := by
  have h1 := wide_pairs ss
  show max 2 (max 0 (max (max (ss.map shD).length (wideAll (ss.map shD))) 0)) ≤ 24
  rw [List.length_map]
  omega
theorem opsOk_D (h : Int) : ∀ l : List Op, (∀ ss, Op.rep ss ∈ l → ss.length ≤ 24) → l.length ≤ 100000 → OpsOk (l.map (opD h)) := fun l hs hl => by
  refine ⟨?_, ?_, ?_, by rw [List.length_map]; exact hl⟩
  · clear hl hs
    induction l with
    | nil => rfl
    | cons a l ih =>
      show (PyData.plain (opD h a) && PyData.plainAll (l.map (opD h))) = true
      rw [ih]
      cases a with
      | adv n => rfl
      | rep ss =>
        show (PyData.plain (.str "replace") && (PyData.plain (tbD h ss) && true)) && true = true
        rw [tbD_plain]; rfl
  · clear hl hs
    induction l with
    | nil => exact Nat.zero_le _
    | cons a l ih =>
      have : (opD h a).depth ≤ 4 := by
        cases a with
        | adv n => simp [opD, PyData.depth, PyData.depthAll]
        | rep ss =>
          have := tbD_depth h ss
          show max 0 (max (tbD h ss).depth 0) + 1 ≤ 4
          omega
      show max (opD h a).depth (PyData.depthAll (l.map (opD h))) ≤ 4
      omega
  · clear hl
    induction l with
    | nil => exact Nat.zero_le _
    | cons a l ih =>
      have : wideD (opD h a) ≤ 24 := by
        cases a with
        | adv n => simp [opD, wideD, wideAll]
        | rep ss =>
          have := wide_tb (h := h) (hs ss (by simp))
          show max 2 (max 0 (max (wideD (tbD h ss)) 0)) ≤ 24
          omega
      have := ih (fun ss hss => hs ss (List.mem_cons_of_mem _ hss))
      show max (wideD (opD h a)) (wideAll (l.map (opD h))) ≤ 1000
      omega
section
variable {P : Program} {w : World} {K : PySem.W.Frag} {mg : Str → Option Value} {base : Heap} {f : Addr} {fd : FuncData}
abbrev spCopied : Sp := Pr fun vs H Q _ => ∃ (l : LA) (D : Dk) (N : Nat), vs = [.ref l.d] ∧ LDAt N H l D ∧ N ≤ 1000000 ∧ ∀ l' H', LA.fresh l' H → Kp [] H H' → LDAt N H' l' D → Q (.ref l'.d) H'
theorem ok_law_copied (B : Bi mg) (F : FunS K "_law_copied" "_law_copied" s__law_copied [] [] f fd) (hm : mg "_law_copied" = some (.ref f)) : DefOk P w K mg base "_law_copied" 1 p__law_copied [] spCopied := by
  have S := sc__law_copied
  refine defOk F hm S (fun _ _ _ _ _ _ us hl => match us, hl with | [_], _ => rfl) (fun vs H Q E h => ?_) (fun cdv A outer s H vs Q E hr h => ?_)
  · obtain ⟨_, _, _, rfl, _⟩ := h
    rfl
  · obtain ⟨l, D, N, rfl, hD, hN, q⟩ := h
    refine ⟨_, (pss_cons (ps_set (i := 1) S.nd rfl (Or.inl rfl) (pe_callTy call_dictC (by rfl) B.dict (by decide +kernel) (pa_cons (pv 0) pa_nil)))
      (pss_cons (ps_for (passes_of rfl) rfl (pi_list (pe_lst (pa_cons pe_str (pa_cons pe_str pa_nil)))) (pg_name (i := 2) S.nd rfl (Or.inl rfl))
      (pss_one (ps_dput (hu_of hr) (pv 1) (pv 2) (pe_callTy call_dictC (by rfl) B.dict (by decide +kernel) (pa_cons (pe_dget (hu_of hr) (pv 0) (pv 2) (fun _ _ => rfl)) pa_nil)) rfl)))
      (pss_cons (ps_dput (hu_of hr) (pv 1) pe_str (pe_callTy call_list_of (by rfl) B.list (by decide +kernel) (pa_cons (pe_dget (hu_of hr) (pv 0) pe_str (fun _ _ => rfl)) pa_nil)) rfl)
      (pss_one (ps_ret (pv 1)))))), ?_⟩
    obtain ⟨⟨pv, skvs, ukvs, fl, h1, h2, h4, h5, h6, hfl, hlen, h7, h8⟩, su, n1, n3⟩ := id hD
    have h5z : (6 : Nat) < sizeLine := by decide
    refine ⟨_, rfl, l.d, _, rfl, h1, fun d hd => ?_⟩
    have k1 : Kp [] H (upd H d (.dK (ldF pv l D.day))) := Kp.new hd
    have e1 : (upd H d (.dK (ldF pv l D.day))) d = some (.dK (ldF pv l D.day)) := upd_same
    have hdl : d ≠ l.d := fun z => by rw [z, h1] at hd; cases hd
    generalize upd H d (.dK (ldF pv l D.day)) = H1 at k1 e1 ⊢
    refine ⟨(show (2:Nat) ≤ sizeLine from by decide), fun W hW => ?_⟩
    have kW : Kp [] H1 (upd H1 W (.lst [.str "held", .str "used"])) := Kp.new hW
    have eW : (upd H1 W (.lst [.str "held", .str "used"])) W = some (.lst [.str "held", .str "used"]) := upd_same
    have eW1 := kW.keep _ _ e1 (by simp)
    generalize upd H1 W (.lst [.str "held", .str "used"]) = H2 at kW eW eW1 ⊢
    have k2 := k1.trans kW
    have nWd : W ≠ d := fun z => by rw [z, e1] at hW; cases hW
    refine ⟨W, rfl, ⟨_, SqL.of eW⟩, for_it (walk_list (K := K) (a := W) (xs := [.str "held", .str "used"])) (fun i σ G => ∃ o2 : Option V, σ = [some (.ref l.d), some (.ref d), o2] ∧ Kp [d] H2 G ∧ ∃ hd2 ud2, G d = some (.dK (ldF pv ⟨d, hd2, l.fd, ud2⟩ D.day)) ∧ d ≠ hd2 ∧ d ≠ ud2 ∧
        (1 ≤ i → H hd2 = none ∧ G hd2 = some (.dK skvs)) ∧ (i = 0 → hd2 = l.hd) ∧ (i ≤ 1 → ud2 = l.ud) ∧ (2 ≤ i → H ud2 = none ∧ G ud2 = some (.dK ukvs) ∧ hd2 ≠ ud2))
      ⟨none, rfl, Kp.refl _, l.hd, l.ud, eW1, (fun z => by rw [z, h4] at hd; cases hd), (fun z => by rw [z, h7] at hd; cases hd), fun z => absurd z (by decide), fun _ => rfl, fun _ => rfl, fun z => absurd z (by decide)⟩ ?_ ?_ ?_⟩
    · rintro i σ G hi ⟨o2, rfl, kG, _⟩
      exact SqL.of (kG.keep _ _ eW (by simpa using nWd))
    · rintro i x σ G0 G hi ⟨o2, rfl, kG, hd2, ud2, eG, nd1, nd2, c1, c2, c3, c4⟩ ⟨rfl, hx⟩
      have kHG : Kp [d] H G := (k2.mono (by simp)).trans kG
      have L1 := hD.kp kHG (fun y hy z => by
        rw [show y = d by simpa using z] at hy
        exact hD.live d hy hd)
      obtain ⟨⟨pv', skvs', ukvs', fl', g1, g2, g4, g5, g6, gfl, glen, g7, g8⟩, _⟩ := id L1
      have g1' := kHG.keep _ _ h1 (by simpa using hdl.symm)
      have g4' := kHG.keep _ _ h4 (fun z => by rw [show l.hd = d by simpa using z] at h4; rw [h4] at hd; cases hd)
      have g7' := kHG.keep _ _ h7 (fun z => by rw [show l.ud = d by simpa using z] at h7; rw [h7] at hd; cases hd)
      match i, hi, hx with
      | 0, _, hx =>
        cases hx
        refine ⟨_, rfl, _, rfl, l.d, _, rfl, ld_held g1', l.hd, skvs, rfl, g4', fun p hp => ?_⟩
        have kp1 : Kp [] G (upd G p (.dK skvs)) := Kp.new hp
        have ep1 : (upd G p (.dK skvs)) p = some (.dK skvs) := upd_same
        have ed := kp1.keep _ _ eG (by simp)
        have npd : p ≠ d := fun z => by rw [z, eG] at hp; cases hp
        generalize upd G p (.dK skvs) = G1 at kp1 ep1 ed ⊢
        refine ⟨_, rfl, _, rfl, d, _, rfl, DPut.k (kvs := ldF pv ⟨d, hd2, l.fd, ud2⟩ D.day) (k := .inr "held") ed (show (5:Nat) < sizeLine from by decide), ?_⟩
        have kd : Kp [d] G1 (upd G1 d (.dK (ldF pv ⟨d, p, l.fd, ud2⟩ D.day))) := (Kp.refl _).put (by simp) ed dK_nt
        refine ⟨_, rfl, kG.trans ((kp1.mono (by simp)).trans kd), p, ud2, upd_same, npd.symm, nd2, fun _ => ⟨kHG.freeS hp (by simpa using npd), ?_⟩, fun z => absurd z (by decide), fun _ => c3 (by decide), fun z => absurd z (by decide)⟩
        exact kd.keep _ _ ep1 (by simpa using npd)
      | 1, _, hx =>
        cases hx
        obtain ⟨c11, c12⟩ := c1 (by decide)
        refine ⟨_, rfl, _, rfl, l.d, _, rfl, ld_used g1', l.ud, ukvs, rfl, g7', fun p hp => ?_⟩
        have kp1 : Kp [] G (upd G p (.dK ukvs)) := Kp.new hp
        have ep1 : (upd G p (.dK ukvs)) p = some (.dK ukvs) := upd_same
        have ed := kp1.keep _ _ eG (by simp)
        have npd : p ≠ d := fun z => by rw [z, eG] at hp; cases hp
        have nph : hd2 ≠ p := fun z => by rw [← z, c12] at hp; cases hp
        generalize upd G p (.dK ukvs) = G1 at kp1 ep1 ed ⊢
        refine ⟨_, rfl, _, rfl, d, _, rfl, DPut.k (kvs := ldF pv ⟨d, hd2, l.fd, ud2⟩ D.day) (k := .inr "used") ed (show (5:Nat) < sizeLine from by decide), ?_⟩
        have kd : Kp [d] G1 (upd G1 d (.dK (ldF pv ⟨d, hd2, l.fd, p⟩ D.day))) := (Kp.refl _).put (by simp) ed dK_nt
        refine ⟨_, rfl, kG.trans ((kp1.mono (by simp)).trans kd), hd2, p, upd_same, nd1, npd.symm, fun _ => ⟨c11, kd.keep _ _ (kp1.keep _ _ c12 (by simp)) (by simpa using nd1.symm)⟩, fun z => absurd z (by decide), fun z => absurd z (by decide), fun _ => ⟨kHG.freeS hp (by simpa using npd), kd.keep _ _ ep1 (by simpa using npd), nph⟩⟩
      | i + 2, hi, _ => exact absurd hi (by simp)
    · rintro σ G ⟨o2, rfl, kG, hd2, ud2, eG, nd1, nd2, c1, c2, c3, c4⟩
      obtain ⟨c11, c12⟩ := c1 (by decide)
      obtain ⟨c41, c42, c43⟩ := c4 (by decide)
      have kHG : Kp [d] H G := (k2.mono (by simp)).trans kG
      have g1' := kHG.keep _ _ h1 (by simpa using hdl.symm)
      have g6' := kHG.keep _ _ h6 (fun z => by rw [show l.fd = d by simpa using z] at h6; rw [h6] at hd; cases hd)
      refine ⟨_, rfl, l.d, _, rfl, ld_free g1', l.fd, _, rfl, .inl (SqL.of g6'), fun p hp => ?_⟩
      have kp1 : Kp [] G (upd G p (.lst (fl.map V.int))) := Kp.new hp
      have ep1 : (upd G p (.lst (fl.map V.int))) p = some (.lst (fl.map V.int)) := upd_same
      have ed := kp1.keep _ _ eG (by simp)
      have npd : p ≠ d := fun z => by rw [z, eG] at hp; cases hp
      have e12 := kp1.keep _ _ c12 (by simp)
      have e42 := kp1.keep _ _ c42 (by simp)
      generalize upd G p (.lst (fl.map V.int)) = G1 at kp1 ep1 ed e12 e42 ⊢
      refine ⟨_, rfl, d, _, rfl, DPut.k (kvs := ldF pv ⟨d, hd2, l.fd, ud2⟩ D.day) (k := .inr "free") ed (show (5:Nat) < sizeLine from by decide), ?_⟩
      have kd : Kp [d] G1 (upd G1 d (.dK (ldF pv ⟨d, hd2, p, ud2⟩ D.day))) := (Kp.refl _).put (by simp) ed dK_nt
      have kall : Kp [d] H (upd G1 d (.dK (ldF pv ⟨d, hd2, p, ud2⟩ D.day))) := kHG.trans ((kp1.mono (by simp)).trans kd)
      refine ⟨_, rfl, ?_⟩
      refine q ⟨d, hd2, p, ud2⟩ (upd G1 d (.dK (ldF pv ⟨d, hd2, p, ud2⟩ D.day))) ?_ (kall.less (fun b hb => .inr (by rw [show b = d by simpa using hb]; exact hd))) ⟨⟨pv, skvs, ukvs, fl, upd_same, h2.kp kall, kd.keep _ _ e12 (by simpa using nd1.symm), h5.tk kall.tup, kd.keep _ _ ep1 (by simpa using npd), hfl, hlen, kd.keep _ _ e42 (by simpa using nd2.symm), h8⟩, c43, nd1, nd2⟩
      intro x hx
      have hx : x = d ∨ x = hd2 ∨ x = p ∨ x = ud2 := by simpa [LA.foot] using hx
      rcases hx with rfl | rfl | rfl | rfl
      · exact hd
      · exact c11
      · exact kHG.freeS hp (by simpa using npd)
      · exact c41
end
end Ba

set_option maxHeartbeats 400000
namespace Ba
open PySem PySem.Spec PyProof.Rows L2
section
variable {P : Program} {w : World} {K : PySem.W.Frag} {mg : Str → Option Value} {base : Heap} {f : Addr} {fd : FuncData}
abbrev spRight (CD CH : Addr) : Sp := Pr fun vs H Q _ => ∃ (ha : HA) (l : LA) (ol : Addr) (B : Hb) (os : List V) (N M : Nat), vs = [.ref ha.p, .ref l.d, .ref ol] ∧ HarbAt CD CH H ha B ∧ LDAt M H l B.D ∧ B.day = B.D.day ∧ DkOk N B.D ∧ N ≤ 1000000 ∧ H ol = some (.lst os) ∧ TpAll H os (B.hist.map (·.op)) ∧ OpsOk (B.hist.map (·.op)) ∧
  ∀ H', Kp [] H H' → Q (.bl true) H'
theorem ok_law_right {CD CH : Addr} (B : Bi mg) (cl_Harbour : Cls K CH) (D_Harbour_occupied : MetOk P w K mg base CH "occupied" 1 p_Harbour_occupied [] (spHarbOcc CD CH)) (D_Harbour_day : MetOk P w K mg base CH "day" 1 p_Harbour_day [] (spHarbDay CD CH))
    (D_Harbour_log : MetOk P w K mg base CH "log" 1 p_Harbour_log [] (spHarbLog CD CH)) (D_Harbour_len : OneOk P w K mg base CH "__len__" 1 p_Harbour_len (spHarbLen CD CH)) (D__law_same : DefOk P w K mg base "_law_same" 8 p__law_same [] (spSame K 8))
    (F : FunS K "_law_right" "_law_right" s__law_right [] [] f fd) (hm : mg "_law_right" = some (.ref f)) : DefOk P w K mg base "_law_right" 9 p__law_right [] (spRight CD CH) := by
  have S := sc__law_right
  refine defOk F hm S (fun _ _ _ _ _ _ us hl => match us, hl with | [_, _, _], _ => rfl) (fun vs H Q E h => ?_) (fun cdv A outer s H vs Q E hr h => ?_)
  · obtain ⟨_, _, _, _, _, _, _, rfl, _⟩ := h
    rfl
  · obtain ⟨ha, l, ol, Bm, os, N, M, rfl, hB, hD, hday, hok, hN, hol, hos, hops, q⟩ := h
    refine ⟨_, (pss_cons (ps_set (i := 3) S.nd rfl (Or.inl rfl) (pe_callB (cr_sortD hr.units shD) (by rfl) B.sorted (by decide +kernel) (pa_cons (pe_lock (pe_lc (own := [("_law_berth", 4), ("_law_until", 5), ("_law_order", 6)]) (g := (gTup K 2 (gCons (gName 4) (gCons (gTup K 2 (gCons (gName 5) (gCons (gName 6) gNil))) gNil)))) (tt := tYes) (by rfl) S.nd (pi_items (pe_dget (hu_of hr) (pv 1) pe_str (fun _ _ => rfl))) (blkOk_by (own := [("_law_berth", 4), ("_law_until", 5), ("_law_order", 6)]) (N := n__law_right) (sc := defScope s__law_right) (by decide +kernel)) (fun _ _ _ _ _ => (pg_tup rfl (pgs_cons (pg_name (i := 4) S.nd rfl (Or.inl rfl)) (pgs_cons (pg_tup rfl (pgs_cons (pg_name (i := 5) S.nd rfl (Or.inl rfl)) (pgs_cons (pg_name (i := 6) S.nd rfl (Or.inl rfl)) pgs_nil))) pgs_nil)))) (fun _ _ _ _ _ => pts_nil) (fun _ _ _ _ _ => (pe_tup (pa_cons (pv 4) (pa_cons (pv 5) pa_nil)))))) pa_nil)))
      (pss_cons (ps_set (i := 7) S.nd rfl (Or.inl rfl) (pe_lst (pa_cons (pe_met0 (pv 0) cl_Harbour D_Harbour_day (hr.mono (by decide)) passLB) (pa_cons (pe_callB (len_x D_Harbour_len (hr.mono (by decide)) passLB) (by rfl) B.len (by decide +kernel) (pa_cons (pv 0) pa_nil)) (pa_cons (pe_met0 (pv 0) cl_Harbour D_Harbour_occupied (hr.mono (by decide)) passLB) (pa_cons (pe_met0 (pv 0) cl_Harbour D_Harbour_log (hr.mono (by decide)) passLB) pa_nil))))))
      (pss_one (ps_ret (pe_fn D__law_same (hr.mono (by decide)) passLB rfl (pa_cons (pv 7) (pa_cons (pe_lst (pa_cons (pe_dget (hu_of hr) (pv 1) pe_str (fun _ _ => rfl)) (pa_cons (pe_callB call_len_seq (by rfl) B.len (by decide +kernel) (pa_cons (pv 3) pa_nil)) (pa_cons (pv 3) (pa_cons (pv 2) pa_nil))))) pa_nil))))))), ?_⟩
    obtain ⟨⟨pv, skvs, ukvs, fl, h1, h2, h4, h5, h6, hfl, hlen, h7, h8⟩, su, n1, n3⟩ := id hD
    have hsv := hok.sv
    have hsl := h5.len
    have hsz : (2000000 : Nat) < sizeLine := by decide
    refine ⟨l.hd, .dK skvs, h4, by trivial, fun od => ?_⟩
    refine ⟨_, rfl, l.d, _, rfl, ld_held ((upd_ne (o := .frz od (.dK skvs)) n1).trans h1), l.hd, od, skvs, rfl, upd_same, fun L hL => ?_⟩
    refine (lc_data (walk_items (d := l.hd) (o := od) (kvs := skvs)) (fun i => match Bm.D.stays[i]? with | some s => [shD (s.1, s.2.1)] | none => []) hL (fun H4 k4 => k4.keep _ _ upd_same (by simp)) ?_ ?_)
    · rintro i x H4 H5 hi L4 ⟨T, k, v, ek, rfl, hT, rfl⟩
      have tk4 : TK H H4 := (tk_frz h4 dK_nt).trans L4.kp.tup
      obtain ⟨s, es, rfl, ts⟩ := (h5.tk tk4).at ek
      obtain ⟨c, o, rfl, hc, ho⟩ := tp_st ts
      have hc2 : (upd H4 T (.tup [.int s.1, .ref c])) c = _ := (TK.new hT) _ _ hc
      refine ⟨T, _, rfl, SqT.of upd_same, rfl, _, _, rfl, _, _, rfl, ⟨c, _, rfl, SqT.of hc2, rfl, _, _, rfl, _, _, rfl, rfl, ?_⟩⟩
      refine ⟨rfl, ?_⟩
      refine ⟨wipe3 (by decide), ?_⟩
      refine ⟨_, rfl, _, rfl, (show (2:Nat) ≤ sizeLine from by decide), fun t1 ht1 => ?_⟩
      exact L4.fin (d := shD (s.1, s.2.1)) (by omega) hL hi ((Kp.new hT).trans (Kp.new ht1)) (by rw [es]) (.tup upd_same (.cons (.int _) (.cons (.int _) .nil)))
    · intro H4 acc k4 hacc _ hT
      rw [h5.len, flatMap_one Bm.D.stays _ (fun s => shD (s.1, s.2.1)) (fun i x e => by rw [e])] at hT
      rw [show (Bm.D.stays.map fun s => shD (s.1, s.2.1)) = (Bm.D.stays.map fun s => (s.1, s.2.1)).map shD by rw [List.map_map]; rfl] at hT
      refine ⟨k4.keep _ _ upd_same (by simp), ?_⟩
      have k6 : Kp [] H (upd H4 l.hd (.dK skvs)) := kp_unlock h4 dK_nt k4
      have nLs : L ≠ l.hd := fun z => by rw [z, upd_same] at hL; cases hL
      have hacc6 : (upd H4 l.hd (.dK skvs)) L = some (.lst acc) := by rw [upd_ne nLs]; exact hacc
      have hT6 : TpAll (upd H4 l.hd (.dK skvs)) acc _ := TpAll.mono (fun b ys e => by rw [upd_ne (ne_of e (k4.keep _ _ upd_same (by simp)) (fun z => nomatch z))]; exact e) _ _ hT
      generalize upd H4 l.hd (.dK skvs) = H6 at k6 hacc6 hT6 ⊢
      refine ⟨L, acc, _, rfl, SqL.of hacc6, hT6, shD_alike, fun b => ⟨_, _, rfl⟩, shD_depth, fun ys hp hys hyl hhp => ?_⟩
      have hys : TpAll H6 ys ((occM Bm.D).map shD) := hys
      have k67 : Kp [] H6 (upd H6 hp (.lst ys)) := Kp.new hhp
      have e7 : (upd H6 hp (.lst ys)) hp = some (.lst ys) := upd_same
      have y7 := hys.kp k67
      generalize upd H6 hp (.lst ys) = H7 at k67 e7 y7 ⊢
      have k7 := k6.trans k67
      have B7 := hB.kp k7 (by simp)
      obtain ⟨⟨tv7, pv7, es7, b1, _⟩, _⟩ := id B7
      have k08 := k7
      have B8 := B7
      have c1 := b1
      refine ⟨_, rfl, ha.p, ha.dx, _, rfl, c1, rfl, ha, Bm, rfl, B8, ?_⟩
      refine ⟨_, rfl, ha.p, ha.dx, _, rfl, c1, ha, Bm, N, rfl, B8, hok, hN, _, rfl, by omega, by omega, ?_⟩
      refine ⟨_, rfl, ha.p, ha.dx, _, rfl, c1, rfl, ha, Bm, N, rfl, B8, hok, hN, fun tp ts H8 htp k8 e8 t8 => ?_⟩
      have B8' := B8.kp k8 (by simp)
      obtain ⟨⟨tv8, pv8, es8, c8, _⟩, _⟩ := id B8'
      refine ⟨_, rfl, ha.p, ha.dx, _, rfl, c8, rfl, ha, Bm, rfl, B8', by have := hops.n; rw [List.length_map] at this; omega, fun lp ls H9 hlp k9 e9 t9 => ?_⟩
      refine ⟨(show (4:Nat) ≤ sizeLine from by decide), fun A1 hA1 => ?_⟩
      have kA : Kp [] H9 (upd H9 A1 (.lst [.int Bm.day, .int (Bm.D.stays.length : Nat), .ref tp, .ref lp])) := Kp.new hA1
      have eA : (upd H9 A1 (.lst [.int Bm.day, .int (Bm.D.stays.length : Nat), .ref tp, .ref lp])) A1 = some (.lst [.int Bm.day, .int (Bm.D.stays.length : Nat), .ref tp, .ref lp]) := upd_same
      generalize upd H9 A1 (.lst [.int Bm.day, .int (Bm.D.stays.length : Nat), .ref tp, .ref lp]) = H10 at kA eA ⊢
      have k8A := k9.trans kA
      have k0A := (k08.trans k8).trans k8A
      have D10 := hD.kp k0A (by simp)
      obtain ⟨⟨pv10, skvs10, ukvs10, fl10, d1, _⟩, _⟩ := id D10
      have e7A := (k8.trans k8A).keep _ _ e7 (by simp)
      refine ⟨_, rfl, _, rfl, l.d, _, rfl, ld_day d1, _, rfl, hp, ys, rfl, .inl (SqL.of e7A), _, rfl, _, rfl, (show (4:Nat) ≤ sizeLine from by decide), fun A2 hA2 => ?_⟩
      have kB : Kp [] H10 (upd H10 A2 (.lst [.int Bm.D.day, .int (ys.length : Nat), .ref hp, .ref ol])) := Kp.new hA2
      have eB : (upd H10 A2 (.lst [.int Bm.D.day, .int (ys.length : Nat), .ref hp, .ref ol])) A2 = some (.lst [.int Bm.D.day, .int (ys.length : Nat), .ref hp, .ref ol]) := upd_same
      generalize upd H10 A2 (.lst [.int Bm.D.day, .int (ys.length : Nat), .ref hp, .ref ol]) = H11 at kB eB ⊢
      have k11 := k0A.trans kB
      have hyl3 : ys.length = Bm.D.stays.length := by rw [tpAll_mlen hys, occM_len]
      obtain ⟨w1, w2, w3⟩ := stD4_ok (day := Bm.D.day) (n := (Bm.D.stays.length : Nat)) (oc := occM Bm.D) hops (by rw [occM_len]; omega)
      have DA1 : Dp K H11 (.ref A1) (stD4 Bm.D.day (Bm.D.stays.length : Nat) (occM Bm.D) (Bm.hist.map (·.op))) := by
        have := kB.keep _ _ eA (by simp)
        rw [hday] at this
        exact .lst (SqL.of this) (.cons (.int _) (.cons (.int _) (.cons (.lst (SqL.of ((k8A.trans kB).keep _ _ e8 (by simp))) (TpAll.dp _ _ (t8.kp (k8A.trans kB)))) (.cons (.lst (SqL.of ((kA.trans kB).keep _ _ e9 (by simp))) (TpAll.dp _ _ (t9.kp (kA.trans kB)))) .nil))))
      have DA2 : Dp K H11 (.ref A2) (stD4 Bm.D.day (Bm.D.stays.length : Nat) (occM Bm.D) (Bm.hist.map (·.op))) := by
        rw [hyl3] at eB
        exact .lst (SqL.of eB) (.cons (.int _) (.cons (.int _) (.cons (.lst (SqL.of (kB.keep _ _ e7A (by simp))) (TpAll.dp _ _ (y7.kp ((k8.trans k8A).trans kB)))) (.cons (.lst (SqL.of (k11.keep _ _ hol (by simp))) (TpAll.dp _ _ (hos.kp k11))) .nil))))
      exact ⟨.ref A1, .ref A2, _, rfl, DA1, DA2, w1, w2, by decide, w3, fun H12 k12 => q H12 (k11.trans k12)⟩
end
end Ba

set_option maxHeartbeats 400000
namespace Ba
open PySem PySem.Spec PyProof.Rows L2
section
variable {P : Program} {w : World} {K : PySem.W.Frag} {mg : Str → Option Value} {base : Heap} {f : Addr} {fd : FuncData}
theorem all_live_ne {CD CH : Addr} {H : Hp} {ha : HA} {B : Hb} (hB : HarbAt CD CH H ha B) {x : Addr} (h : H x = none) : x ∉ ha.all := fun z => hB.live x z h
/-- a harbour that grew -/
structure HGrow (ha ha' : HA) (H : Hp) : Prop where
  p : ha'.p = ha.p
  dx : ha'.dx = ha.dx
  hl : ha'.hl = ha.hl
  sub : ∀ x ∈ ha'.all, x ∈ ha.all ∨ H x = none
theorem HGrow.refl (ha : HA) (H : Hp) : HGrow ha ha H := ⟨rfl, rfl, rfl, fun _ h => .inl h⟩
theorem HGrow.mut {ha ha' : HA} {H : Hp} (g : HGrow ha ha' H) : ha'.mut = ha.mut := by unfold HA.mut; rw [g.p, g.hl]
theorem HGrow.adv {ha ha' : HA} {H G : Hp} {S : List Addr} (g : HGrow ha ha' H) {da : DA} (k : Kp S H G) (hS : ∀ x ∈ S, x ∈ ha.all) (fr : ∀ x ∈ da.foot, G x = none) : HGrow ha ⟨ha'.p, ha'.dx, da, ha'.hl, ha'.das ++ [ha'.da]⟩ H :=
  ⟨g.p, g.dx, g.hl, fun x hx => by
    rcases adv_all ha' da fr x hx with h | h
    · exact g.sub x h
    · by_cases z : x ∈ S
      · exact .inl (hS x z)
      · exact .inr (k.freeS h z)⟩
theorem HGrow.undo {ha ha' : HA} {H : Hp} (g : HGrow ha ha' H) {da : DA} {das : List DA} (e : ha'.das = das ++ [da]) : HGrow ha ⟨ha'.p, ha'.dx, da, ha'.hl, das⟩ H :=
  ⟨g.p, g.dx, g.hl, fun x hx => g.sub x (by
    unfold HA.all at hx ⊢
    rw [e]
    rcases List.mem_cons.mp hx with rfl | hx
    · simp
    rcases List.mem_cons.mp hx with rfl | hx
    · simp
    refine List.mem_cons_of_mem _ (List.mem_cons_of_mem _ (List.mem_append_right _ ?_))
    rw [List.flatMap_append, List.mem_append]
    rcases List.mem_append.mp hx with hx | hx
    · exact .inr (by simpa using hx)
    · exact .inl hx)⟩
theorem tp_op {H : Hp} {v : V} {h : Int} {o : Op} (t : Tp H v (opD h o)) : ∃ a y, v = .ref a ∧ ((∃ n : Nat, o = .adv n ∧ y = .int n ∧ H a = some (.tup [.str "advance", y])) ∨ ∃ ss, o = .rep ss ∧ Tp H y (tbD h ss) ∧ H a = some (.tup [.str "replace", y])) := by
  cases o with
  | adv n =>
    obtain ⟨a, v1, v2, rfl, h1, t1, t2⟩ := tp_pair t
    rw [tp_str t1] at h1
    exact ⟨a, v2, rfl, .inl ⟨n, rfl, tp_int t2, h1⟩⟩
  | rep ss =>
    obtain ⟨a, v1, v2, rfl, h1, t1, t2⟩ := tp_pair t
    rw [tp_str t1] at h1
    exact ⟨a, v2, rfl, .inr ⟨ss, rfl, t2, h1⟩⟩
theorem isTableD_shape {d : PyData} (e : isTableD d = true) : isShapeD d = true := by
  unfold isTableD at e
  rw [Bool.and_eq_true] at e
  exact e.1
/-- what replace asks, for a good operation -/
theorem rep_ask {CD CH CT CP : Addr} {H : Hp} {ha : HA} {B : Hb} {y : V} {h : Int} {pol : Pol} {N : Nat} {ss : List (Int × Int)} {Q : VK} {E : XK} (hB : HarbAt CD CH H ha B) (g : GoodB h pol N B) (hp : PolOk pol) (hz : B.hist.length < 1000000)
    (hy : Tp H y (tbD h ss)) (e1 : isTableD (tbD h ss) = true) (e2 : isPolicyD h ss (polD pol) = true)
    (q : ∀ (da : DA) H', (∀ x ∈ da.foot, H x = none) → Kp ha.mut H H' → HarbAt CD CH H' ⟨ha.p, ha.dx, da, ha.hl, ha.das ++ [ha.da]⟩ (repM B ss) → Q .non H') : spHarbRep K CD CH CT CP [.ref ha.p, y] H Q E := by
  have et : tabOf (tbD h ss) = (h, ss) := tabOf_tb
  refine ⟨ha, B, y, rfl, hB, by rw [g.dp]; exact hp, hz, .inr ⟨tbD h ss, Tp.dp _ _ hy, fun _ => hy, .inr ⟨e1, ?_⟩⟩⟩
  rw [et]
  refine .inr ⟨g.hh.symm, .inr ⟨by rw [g.hh, g.pp]; exact e2, q⟩⟩
theorem adv_some {B B' : Hb} {n : Nat} (e : stepB B (.adv n) = some B') : ∃ D', daysM n B.D = some D' ∧ B' = advM B n D' := by
  have e : (daysM n B.D).map (advM B n) = some B' := e
  cases e2 : daysM n B.D with
  | none => rw [e2] at e; cases e
  | some D' => rw [e2] at e; cases e; exact ⟨D', rfl, rfl⟩
theorem hist_len {B0 B : Hb} {l : List Op} (h : opsB B0 l = some B) : B.hist.length = B0.hist.length + l.length := by
  revert B
  refine rev_ind (P := fun l => ∀ {B : Hb}, opsB B0 l = some B → B.hist.length = B0.hist.length + l.length) ?_ ?_ l
  · intro B h
    cases h
    rfl
  · intro l o ih B h
    obtain ⟨B1, e, h1, h2, _⟩ := ops_undo h
    rw [h2, List.length_append, List.length_append, ih h1]
    simp only [List.length_cons, List.length_nil]
    omega
theorem word_ne : ¬ (V.str "replace" = V.str "advance") := fun z => by
  have := V.str.inj z
  exact absurd this (by decide +kernel)
end
end Ba

set_option maxHeartbeats 400000
namespace Ba
open PySem PySem.Spec PyProof.Rows L2
theorem cut_take (xs : List V) (n : Nat) (h : n ≤ xs.length) : cutV xs none (some (n : Int)) = xs.take n := by
  unfold cutV
  rw [HT.sIx_none, HT.sIx_nat]
  simp
  try (congr 1; omega)
theorem atI_end {xs : List V} {v : V} {n : Nat} (hn : xs.length = n + 1) (h : xs[n]? = some v) : atI xs (-1) = some v := by
  have e : xs = xs.take n ++ [v] := by
    have h2 : xs.take (n + 1) = xs.take n ++ [v] := by rw [List.take_add_one, h]; rfl
    rw [← h2, ← hn, List.take_length]
  rw [e]
  exact L2.atI_last _ _
theorem atI_of {xs : List V} {i : Nat} {v : V} (h : xs[i]? = some v) : atI xs (i : Int) = some v := atI_nat h
theorem good0 {h : Int} {ss : List (Int × Int)} {pol : Pol} {bs : List (Int × Int)} (io : InitOk h ss pol bs) : GoodB h pol 2000 (hb0 h ss pol bs) :=
  ⟨rfl, rfl, rfl, rfl, rfl, io.tab, dk0_ok h ss pol io.nd io.n io.po, rfl⟩
def LDR (N : Nat) (l : LA) (D : Dk) : Res := ⟨l.foot, fun H => LDAt N H l D⟩
theorem LDR.ok {N : Nat} {l : LA} {D : Dk} : (LDR N l D).Ok := ⟨fun H h => LDAt.live h, fun H H' S h k n => LDAt.kp h k n⟩
def PailR (a : Addr) (Z : Int) : Res := ⟨[a], fun H => PailAt H a Z⟩
theorem PailR.ok {a : Addr} {Z : Int} : (PailR a Z).Ok := ⟨fun H h x hx z => (by
    obtain ⟨u1, u2, u3, hu, _⟩ := h
    rw [show x = a by simpa [PailR] using hx, hu] at z; cases z), fun H H' S h k n => PailAt.kp h k (n a (by simp [PailR]))⟩
def HbR (CD CH : Addr) (a : HA) (B : Hb) : Res := ⟨a.all, fun G => HarbAt CD CH G a B⟩
theorem HbR.ok {CD CH : Addr} {a : HA} {B : Hb} : (HbR CD CH a B).Ok := ⟨fun H h => HarbAt.live h, fun H H' S h k n => HarbAt.kp h k n⟩
section
variable {K : PySem.W.Frag}
theorem tpAll_take {H : Hp} : ∀ {vs : List V} {ds : List PyData}, TpAll H vs ds → ∀ n : Nat, TpAll H (vs.take n) (ds.take n)
  | _, _, .nil, n => by simp; exact .nil
  | _, _, .cons h t, 0 => .nil
  | _, _, .cons h t, n + 1 => .cons h (tpAll_take t n)
/-- a new harbour -/
theorem mk_ask {CD CH : Addr} {H : Hp} {tv pw sv : V} {h : Int} {ss : List (Int × Int)} {pol : Pol} {bs : List (Int × Int)} {R : Addr → Hp → Prop} {E : XK} (ht : Tp H tv (tbD h ss)) (hw : Tp H pw (polD pol)) (hs : StrS K H sv bs) (io : InitOk h ss pol bs)
    (q : ∀ ha G, (∀ y ∈ ha.all, H y = none) → Kp [] H G → HarbAt CD CH G ha (hb0 h ss pol bs) → R ha.p G) (x dx : Addr) (hx : H x = none) (hdx : H dx = none) (hne : dx ≠ x) :
    spHarbInit K CD CH [.ref x, tv, pw, sv] (upd (upd H dx (.own x)) x (.ins CH dx [])) (fun v H' => v = .non ∧ R x H') E := by
  have kx : Kp [] H (upd (upd H dx (.own x)) x (.ins CH dx [])) := (Kp.new hdx).trans (Kp.new (by rw [upd_ne hne.symm]; exact hx))
  have ex : (upd (upd H dx (.own x)) x (.ins CH dx [])) x = some (.ins CH dx []) := upd_same
  generalize upd (upd H dx (.own x)) x (.ins CH dx []) = G8 at kx ex ⊢
  refine ⟨x, dx, tv, pw, sv, h, ss, pol, bs, rfl, ex, ht.kp kx, hw.kp kx, hs.kp kx, io, fun ha1 G9 e9 fr9 k9 hb9 => ⟨rfl, ?_⟩⟩
  subst e9
  have k79 : Kp [] H G9 := ((kx.mono (S' := [ha1.p]) (by simp)).trans k9).less (fun b hb => .inr (by rw [show b = ha1.p by simpa using hb]; exact hx))
  refine q ha1 G9 (fun y hy => ?_) k79 hb9
  rcases fr9 y hy with e | e
  · rw [e]; exact hx
  · exact kx.free e
theorem HarbAt.ins {CD CH : Addr} {H : Hp} {ha : HA} {B : Hb} (hB : HarbAt CD CH H ha B) : ∃ tv pv, H ha.p = some (.ins CH ha.dx (hbF tv pv ha.da.p B.day ha.hl)) := by
  obtain ⟨⟨tv, pv, es, h1, _⟩, _⟩ := hB
  exact ⟨_, _, h1⟩
theorem rep_ships {h : Int} {pol : Pol} {M : Nat} {ops : List Op} (ho : ∀ o ∈ ops, OpOk h pol M o) : ∀ ss, Op.rep ss ∈ ops → ss.length ≤ 24 := fun ss hs => (tabV_of (ho _ hs).1).n
end
theorem eqv_nilD (ds : List PyData) : PyData.eqv (.list ds) (.list []) = ds.isEmpty := by cases ds <;> rfl
theorem DrawT.mono {h m m' : Int} {ss : List (Int × Int)} (d : DrawT h m ss) (hm : m ≤ m') : DrawT h m' ss := ⟨by have := d.n; omega, d.sh, d.tl⟩
/-- a drawn table -/
structure TabI (h : Int) (G : Hp) (v : V) (ss : List (Int × Int)) : Prop where
  t : Tp G v (tbD h ss)
  d : DrawT h 24 ss
theorem TabI.kp {h : Int} {G G' : Hp} {S : List Addr} {v : V} {ss : List (Int × Int)} (t : TabI h G v ss) (k : Kp S G G') : TabI h G' v ss := ⟨t.t.kp k, t.d⟩
theorem drawS_nil {h : Int} {pol : Pol} {bs : List (Int × Int)} (d : DrawS h pol bs) (ho : pol.open = false) : bs = [] := by
  have h1 : ((bs.map shD).all (isStrangerD h) && ((pol.open || (bs.map shD).isEmpty) && upB ((bs.map shD).map shOf))) = true := d.s
  rw [ho] at h1
  simp only [Bool.and_eq_true, Bool.false_or] at h1
  have := h1.2.1
  cases bs with
  | nil => rfl
  | cons b bs => cases this
theorem Sep.stay {S0 : List Addr} {H0 H : Hp} {rs : List Res} (s : Sep S0 H0 H rs) (P : Hp → Prop) (p : P H) (hk : ∀ H H' S, P H → Kp S H H' → P H') : Sep S0 H0 H (rs ++ [StayR P]) := s.add (StayR P) (Kp.refl _) (StayR.ok hk) p (fun x hx => by simp [StayR] at hx)
theorem tpAll_dropLast {H : Hp} {vs : List V} {ds : List PyData} {d : PyData} (t : TpAll H vs (ds ++ [d])) : TpAll H vs.dropLast ds := by
  have hl := t.length
  rw [List.length_append] at hl
  have := tpAll_take t ds.length
  rw [List.take_left] at this
  rw [List.dropLast_eq_take, show vs.length - 1 = ds.length by simp at hl; omega]
  exact this
theorem snoc_of {α : Type} {l : List α} (h : l ≠ []) : ∃ l' a, l = l' ++ [a] := ⟨l.dropLast, l.getLast h, (List.dropLast_concat_getLast h).symm⟩
theorem last_some {α : Type} {l : List α} (h : l ≠ []) : ∃ y, l[l.length - 1]? = some y := ⟨l.getLast h, by rw [← List.getLast?_eq_getElem?, List.getLast?_eq_some_getLast h]⟩
theorem rep_askP {K : PySem.W.Frag} {CD CH CT CP p : Addr} {H : Hp} {ha : HA} {B : Hb} {y : V} {h : Int} {pol : Pol} {N : Nat} {ss : List (Int × Int)} {Q : VK} {E : XK} (ep : ha.p = p) (hB : HarbAt CD CH H ha B) (g : GoodB h pol N B) (hp : PolOk pol) (hz : B.hist.length < 1000000)
    (hy : Tp H y (tbD h ss)) (e1 : isTableD (tbD h ss) = true) (e2 : isPolicyD h ss (polD pol) = true)
    (q : ∀ (da : DA) H', (∀ x ∈ da.foot, H x = none) → Kp ha.mut H H' → HarbAt CD CH H' ⟨ha.p, ha.dx, da, ha.hl, ha.das ++ [ha.da]⟩ (repM B ss) → Q .non H') : spHarbRep K CD CH CT CP [.ref p, y] H Q E := by
  subst ep
  exact rep_ask hB g hp hz hy e1 e2 q
/-- the empty default of start -/
structure StartC (K : PySem.W.Frag) (sd : Addr) : Prop where
  s : ∀ H : Hp, StrS K H (.ref sd) []
end Ba

set_option maxHeartbeats 400000
namespace Ba
open PySem PySem.Spec PyProof.Rows L2
theorem lackD_none {n : Nat} {D : Dk} {d e : Int} (h : LackD n D d e) : daysM n D = none := by
  obtain ⟨j, Dj, hj, h1, h2, rfl⟩ := h
  have h3 := lack_day h2
  have h4 : ∀ k, daysM (j + 1 + k) D = none := fun k => by
    induction k with
    | zero =>
      show (daysM j D).bind (fun D' => (dayM D').map (·.2)) = none
      rw [h1]
      show (dayM Dj).map (·.2) = none
      rw [h3]
      rfl
    | succ k ih =>
      show (daysM (j + 1 + k) D).bind (fun D' => (dayM D').map (·.2)) = none
      rw [ih]
      rfl
  have := h4 (n - (j + 1))
  rwa [show j + 1 + (n - (j + 1)) = n by omega] at this
theorem lackD_one {n : Nat} {D : Dk} {d e d' e' : Int} (h : LackD n D d e) (h' : LackD n D d' e') : d = d' ∧ e = e' := by
  obtain ⟨j, Dj, hj, h1, h2, rfl⟩ := h
  obtain ⟨i, Di, hi, g1, g2, rfl⟩ := h'
  have hij : i = j := by
    rcases Nat.lt_trichotomy i j with z | z | z
    · have := lackD_none (n := j) (D := D) (d := Di.day) (e := e') ⟨i, Di, z, g1, g2, rfl⟩
      rw [h1] at this
      cases this
    · exact z
    · have := lackD_none (n := i) (D := D) (d := Dj.day) (e := e) ⟨j, Dj, z, h1, h2, rfl⟩
      rw [g1] at this
      cases this
  subst hij
  rw [h1] at g1
  cases g1
  exact ⟨rfl, lack_one h2 g2⟩
section
variable {P : Program} {w : World} {K : PySem.W.Frag} {mg : Str → Option Value} {base : Heap} {f : Addr} {fd : FuncData}
abbrev spFirstW : Sp := Pr fun vs H Q _ => ∃ (a : LA) (tv : V) (D : Dk) (n N : Nat), vs = [.ref a.d, tv, .int (n : Int)] ∧ n ≤ 1000 ∧ LDAt N H a D ∧ DkOk N D ∧ N ≤ 700000 ∧ Tp H tv (tbD D.h D.ss) ∧ TabOk D.h D.ss ∧
  (∀ D' H', daysM n D = some D' → Kp a.foot H H' → LDAt (N + n * 24) H' a D' → Q .non H') ∧
  (∀ (d e : Int) (p : Addr) H', LackD n D d e → H p = none → p ∉ a.foot → Kp a.foot H H' → H' p = some (.tup [.int d, .int e]) → Q (.ref p) H')
theorem kitTT : kitB "tuple" "tuple" = some true := by decide +kernel
theorem ok_law_first_without (B : Bi mg) (D__law_day : DefOk P w K mg base "_law_day" 3 p__law_day [] spLawDay) (F : FunS K "_law_first_without" "_law_first_without" s__law_first_without [] [] f fd) (hm : mg "_law_first_without" = some (.ref f)) :
    DefOk P w K mg base "_law_first_without" 4 p__law_first_without [] spFirstW := by
  have S := sc__law_first_without
  refine defOk F hm S (fun _ _ _ _ _ _ us hl => match us, hl with | [_, _, _], _ => rfl) (fun vs H Q E h => ?_) (fun cdv A outer s H vs Q E hr h => ?_)
  · obtain ⟨a, tv, D, n, N, rfl, _⟩ := h
    rfl
  · obtain ⟨a, tv, D, n, N, rfl, hn1, hD, hok, hN, ht, htab, q1, q2⟩ := h
    refine ⟨_, (pss_cons (ps_for (passes_of rfl) rfl (pi_range1 (by rfl) B.range (pa_cons (pv 2) pa_nil)) (pg_name (i := 3) S.nd rfl (Or.inl rfl))
      (pss_cons (ps_set (i := 4) S.nd rfl (Or.inl rfl) (pe_fn D__law_day (hr.mono (by decide)) passLB rfl (pa_cons (pv 0) (pa_cons (pv 1) pa_nil))))
      (pss_one (ps_if (pt_val (pe_callB call_isA (by rfl) B.isinstance (by decide +kernel) (pa_cons (pv 4) (pa_cons (pe_bltn (v := .ty "tuple") (by rfl) B.tuple (by decide +kernel) rfl) pa_nil)))) (pss_one (ps_ret (pv 4))) pss_nil))))
      (pss_one (ps_ret pe_non))), ?_⟩
    have hn := htab.n
    refine ⟨_, rfl, n, rfl, by omega, by omega, for_it (walk_range (lo := 0) (n := (n : Int).toNat)) (fun j σ G => ∃ o o4 Dj, σ = [some (.ref a.d), some tv, some (.int n), o, o4] ∧ daysM j D = some Dj ∧ Kp a.foot H G ∧ LDAt (N + j * 24) G a Dj) ⟨none, none, D, rfl, rfl, Kp.refl _, by simpa using hD⟩ (fun _ _ _ _ _ => trivial) ?_ ?_⟩
    · rintro j x σ H2 H3 hj ⟨o, o4, Dj, rfl, hdj, k2, D2⟩ ⟨rfl, rfl⟩
      rw [Int.toNat_natCast] at hj
      obtain ⟨ok2, sc2, _⟩ := daysM_ok hok hdj
      have hb : j * D.ss.length ≤ j * 24 := Nat.mul_le_mul (Nat.le_refl _) hn
      refine ⟨_, rfl, _, rfl, a, tv, Dj, _, rfl, D2, ok2.mono (by omega), by omega, by rw [sc2.h, sc2.ss]; exact ht.kp k2, ⟨by rw [sc2.h]; exact htab.h1, by rw [sc2.h]; exact htab.h2, by rw [sc2.ss]; exact htab.n⟩, fun Dj1 cs p xs H4 hd2 _ k4 hp4 D4 => ?_, fun e p H4 hl hp hpf k4 hp4 => ?_⟩
      · refine ⟨_, rfl, .ref p, "list", "tuple", false, rfl, sqL_ty (SqL.of hp4), kitLT, _, rfl, ?_⟩
        refine iteF' rfl ?_
        refine ⟨_, _, Dj1, rfl, ?_, k2.trans k4, ?_⟩
        · show (daysM j D).bind (fun D' => (dayM D').map (·.2)) = _
          rw [hdj]
          show (dayM Dj).map (·.2) = _
          rw [hd2]
          rfl
        · rw [Nat.succ_mul, ← Nat.add_assoc]
          exact D4
      · refine ⟨_, rfl, .ref p, "tuple", "tuple", true, rfl, ?_, kitTT, _, rfl, ?_⟩
        · exact sqT_ty (SqT.of hp4)
        refine iteT' rfl ?_
        exact ⟨_, rfl, q2 Dj.day e p H4 ⟨j, Dj, hj, hdj, hl, rfl⟩ (k2.freeS hp hpf) hpf (k2.trans k4) hp4⟩
    · rintro σ H2 ⟨o, o4, Dj, rfl, hdj, k2, D2⟩
      rw [Int.toNat_natCast] at hdj D2
      exact q1 Dj H2 hdj k2 D2
end
end Ba

set_option maxHeartbeats 400000
namespace Ba
open PySem PySem.Spec PyProof.Rows L2
theorem le_foldl_max : ∀ (l : List Int) (a : Int), a ≤ l.foldl max a ∧ ∀ x ∈ l, x ≤ l.foldl max a
  | [], a => ⟨Int.le_refl _, fun x h => by cases h⟩
  | b :: l, a => by
    obtain ⟨h1, h2⟩ := le_foldl_max l (max a b)
    rw [List.foldl_cons]
    refine ⟨by omega, fun x hx => ?_⟩
    rcases List.mem_cons.mp hx with rfl | hx
    · omega
    · exact h2 x hx
theorem le_maxI {l : List Int} {d x : Int} (h : x ∈ l) : x ≤ maxI l d := by
  cases l with
  | nil => cases h
  | cons n ns =>
    show x ≤ ns.foldl max n
    rcases List.mem_cons.mp h with rfl | h
    · exact (le_foldl_max ns x).1
    · exact (le_foldl_max ns n).2 x h
theorem runC_mem : ∀ (p : List Ev5) (e : Ev5) (r : List Ev5) (c : Int), stepC (p.foldl stepC c) e ∈ runC c (p ++ e :: r)
  | [], e, r, c => by simp [runC]
  | a :: p, e, r, c => by
    show stepC (p.foldl stepC (stepC c a)) e ∈ stepC c a :: runC (stepC c a) (p ++ e :: r)
    exact List.mem_cons_of_mem _ (runC_mem p e r _)
theorem pkK_le_peakM {h : Int} {ss : List (Int × Int)} (h1 : 1 ≤ h) (hsh : ∀ x ∈ ss, 0 ≤ x.1 ∧ x.1 < h ∧ 1 ≤ x.2) {k : Nat} {s : Int × Int} (hs : ss[k]? = some s) : pkK h ss k s ≤ peakM h ss := by
  have hin : arrEv k s ∈ evs h ss := by
    refine (evs_perm h ss).mem_iff.mpr (List.mem_append_right _ ?_)
    rw [List.mem_iff_getElem?]
    exact ⟨k, by rw [List.getElem?_mapIdx, hs]; rfl⟩
  obtain ⟨p, r, he⟩ := List.append_of_mem hin
  have hc := arr_count h1 hsh hs he
  have hm := runC_mem p (arrEv k s) r (midM h ss)
  rw [← he] at hm
  have h3 := le_maxI (d := 0) hm
  have e : stepC (p.foldl stepC (midM h ss)) (arrEv k s) = p.foldl stepC (midM h ss) + 1 := rfl
  rw [e, hc] at h3
  exact h3
theorem peakM_pos {h : Int} {ss : List (Int × Int)} (h1 : 1 ≤ h) (hsh : ∀ x ∈ ss, 0 ≤ x.1 ∧ x.1 < h ∧ 1 ≤ x.2) : 0 ≤ peakM h ss := by
  cases hss : ss with
  | nil =>
    have : evs h [] = [] := List.eq_nil_of_length_eq_zero (evs_length h [])
    unfold peakM countsM
    rw [this]
    exact Int.le_refl _
  | cons a l =>
    have hlen : (evs h ss).length = 2 * ss.length := evs_length h ss
    have hne : evs h ss ≠ [] := fun z => by rw [z, hss] at hlen; simp at hlen
    obtain ⟨p, e, he⟩ : ∃ p e, evs h ss = p ++ [e] := ⟨(evs h ss).dropLast, (evs h ss).getLast hne, (List.dropLast_concat_getLast hne).symm⟩
    have hm := runC_mem p e [] (midM h ss)
    have hf : stepC (p.foldl stepC (midM h ss)) e = midM h ss := by
      have z := foldl_step (evs h ss) (midM h ss)
      rw [sg_zero, he, List.foldl_append] at z
      simpa using z
    rw [← he, hf] at hm
    have h3 := le_maxI (d := 0) hm
    have h4 : ∀ l : List (Int × Int), (∀ x ∈ l, 0 ≤ x.1 ∧ x.1 < h ∧ 1 ≤ x.2) → 0 ≤ (l.map fun s => (s.1 + s.2) / h).sum := fun l hl => by
      induction l with
      | nil => exact Int.le_refl _
      | cons b l ih =>
        have h5 := ih (fun x hx => hl x (List.mem_cons_of_mem _ hx))
        have h6 := hl b (by simp)
        have : 0 ≤ (b.1 + b.2) / h := Int.ediv_nonneg (by omega) (by omega)
        rw [List.map_cons, List.sum_cons]
        omega
    have h5 := h4 ss hsh
    rw [← hss]
    exact Int.le_trans h5 h3
theorem lawPk_eq {h : Int} {ss : List (Int × Int)} (h1 : 1 ≤ h) (hsh : ∀ x ∈ ss, 0 ≤ x.1 ∧ x.1 < h ∧ 1 ≤ x.2) : peakM h ss = lawPk h ss := by
  have a1 := peakM_le h1 hsh
  have a2 : lawPk h ss ≤ peakM h ss := by
    unfold lawPk
    refine foldl_mx_le _ _ _ (peakM_pos h1 hsh) (fun x hx => ?_)
    obtain ⟨i, hi⟩ := List.mem_iff_getElem?.mp hx
    rw [List.getElem?_mapIdx] at hi
    cases e : ss[i]? with
    | none => rw [e] at hi; cases hi
    | some s =>
      rw [e] at hi
      cases hi
      exact pkK_le_peakM h1 hsh e
  omega
end Ba

set_option maxHeartbeats 400000
namespace Ba
open PySem PySem.Spec PyProof.Rows L2
def rotS (h : Int) (ss : List (Int × Int)) : List (Int × Int) := ss.map fun s => ((s.1 + 1) % h, s.2)
/-! ### all hours one later -/
theorem rot1 {h a : Int} (h0 : 0 ≤ a) (h1 : a < h) : (a + 1) % h = if a + 1 = h then 0 else a + 1 := by
  by_cases e : a + 1 = h
  · rw [if_pos e, e, Int.emod_self]
  · rw [if_neg e]
    exact Int.emod_eq_of_lt (by omega) (by omega)
theorem ediv_add {h z : Int} (h1 : 1 ≤ h) : (z + h) / h = z / h + 1 := by
  have := Int.add_mul_ediv_left z 1 (show h ≠ 0 by omega)
  rw [Int.mul_one] at this
  exact this
theorem ediv_sub {h z : Int} (h1 : 1 ≤ h) : (z - h) / h = z / h - 1 := by
  have := ediv_add (z := z - h) h1
  rw [show z - h + h = z by omega] at this
  omega
theorem ediv_lt0 {h z : Int} (h1 : 1 ≤ h) (hz : z < h) : z / h ≤ 0 := by
  have : z / h < 1 := Int.ediv_lt_of_lt_mul (by omega) (by omega)
  omega
theorem ediv_neg1 {h z : Int} (h1 : 1 ≤ h) (hz : z < 0) : z / h ≤ -1 := by
  have : z / h < 0 := Int.ediv_lt_of_lt_mul (by omega) (by omega)
  omega
theorem pkT_rot {h : Int} {k j : Nat} {s o : Int × Int} (h1 : 1 ≤ h) (hs : 0 ≤ s.1 ∧ s.1 < h) (ho : 0 ≤ o.1 ∧ o.1 < h ∧ 1 ≤ o.2) : pkT h k ((s.1 + 1) % h, s.2) j ((o.1 + 1) % h, o.2) = pkT h k s j o := by
  obtain ⟨a, la⟩ := s
  obtain ⟨b, lb⟩ := o
  simp only at hs ho
  unfold pkT
  rw [ltP_eq, ltP_eq]
  simp only
  rw [rot1 hs.1 hs.2, rot1 ho.1 ho.2.1]
  by_cases ea : a + 1 = h
  · by_cases eb : b + 1 = h
    · rw [if_pos ea, if_pos eb]
      have e : a - b - lb = 0 - 0 - lb := by omega
      rw [e]
      have e2 : decide (a < b ∨ a = b ∧ (k : Int) < j) = decide ((0 : Int) < 0 ∨ (0 : Int) = 0 ∧ (k : Int) < j) := by
        rw [decide_eq_decide]
        omega
      rw [e2]
    · rw [if_pos ea, if_neg eb]
      have e : 0 - (b + 1) - lb = (a - b - lb) - h := by omega
      rw [e, ediv_sub h1]
      have hx := ediv_lt0 (z := a - b - lb) h1 (by omega)
      rw [decide_eq_true (show (0 : Int) < b + 1 ∨ (0 : Int) = b + 1 ∧ (k : Int) < j by omega), decide_eq_false (show ¬ (a < b ∨ a = b ∧ (k : Int) < j) by omega)]
      rw [if_pos rfl, if_neg Bool.false_ne_true]
      split <;> split <;> omega
  · by_cases eb : b + 1 = h
    · rw [if_neg ea, if_pos eb]
      have e : a + 1 - 0 - lb = (a - b - lb) + h := by omega
      rw [e, ediv_add h1]
      have hx := ediv_neg1 (z := a - b - lb) h1 (by omega)
      rw [decide_eq_false (show ¬ (a + 1 < 0 ∨ a + 1 = 0 ∧ (k : Int) < j) by omega), decide_eq_true (show (a < b ∨ a = b ∧ (k : Int) < j) by omega)]
      rw [if_pos rfl, if_neg Bool.false_ne_true]
      split <;> split <;> omega
    · rw [if_neg ea, if_neg eb]
      have e : a + 1 - (b + 1) - lb = a - b - lb := by omega
      rw [e]
      have e2 : decide (a + 1 < b + 1 ∨ a + 1 = b + 1 ∧ (k : Int) < j) = decide (a < b ∨ a = b ∧ (k : Int) < j) := by
        rw [decide_eq_decide]
        omega
      rw [e2]
theorem mapIdx_map {α β γ : Type} (g : α → β) (f : Nat → β → γ) (l : List α) : (l.map g).mapIdx f = l.mapIdx fun i x => f i (g x) := by
  apply List.ext_getElem?
  intro i
  rw [List.getElem?_mapIdx, List.getElem?_mapIdx, List.getElem?_map]
  cases l[i]? <;> rfl
theorem mapIdx_congr {α β : Type} {f g : Nat → α → β} {l : List α} (h : ∀ i x, l[i]? = some x → f i x = g i x) : l.mapIdx f = l.mapIdx g := by
  apply List.ext_getElem?
  intro i
  rw [List.getElem?_mapIdx, List.getElem?_mapIdx]
  cases e : l[i]? with
  | none => rfl
  | some x => show some (f i x) = some (g i x); rw [h i x e]
theorem pkK_rot {h : Int} {ss : List (Int × Int)} {k : Nat} {s : Int × Int} (h1 : 1 ≤ h) (hs : 0 ≤ s.1 ∧ s.1 < h) (hsh : ∀ x ∈ ss, 0 ≤ x.1 ∧ x.1 < h ∧ 1 ≤ x.2) : pkK h (rotS h ss) k ((s.1 + 1) % h, s.2) = pkK h ss k s := by
  unfold pkK rotS
  rw [mapIdx_map]
  congr 1
  exact mapIdx_congr fun i x e => pkT_rot h1 hs (hsh x (List.mem_of_getElem? e))
theorem lawPk_rot {h : Int} {ss : List (Int × Int)} (h1 : 1 ≤ h) (hsh : ∀ x ∈ ss, 0 ≤ x.1 ∧ x.1 < h ∧ 1 ≤ x.2) : lawPk h (rotS h ss) = lawPk h ss := by
  have e : (rotS h ss).mapIdx (pkK h (rotS h ss)) = ss.mapIdx (pkK h ss) := by
    conv => lhs; arg 2; unfold rotS
    rw [mapIdx_map]
    exact mapIdx_congr fun i x e => by
      have := hsh x (List.mem_of_getElem? e)
      exact pkK_rot h1 ⟨this.1, this.2.1⟩ hsh
  unfold lawPk
  rw [e]
theorem rot_mem {h : Int} {ss : List (Int × Int)} (h1 : 1 ≤ h) {x : Int × Int} (hx : x ∈ rotS h ss) : ∃ y ∈ ss, 0 ≤ x.1 ∧ x.1 < h ∧ x.2 = y.2 := by
  obtain ⟨y, hy, rfl⟩ := List.mem_map.mp hx
  exact ⟨y, hy, Int.emod_nonneg _ (by omega), Int.emod_lt_of_pos _ (by omega), rfl⟩
/-! ### all hours later by some hours -/
def shS (h y : Int) (ss : List (Int × Int)) : List (Int × Int) := ss.map fun s => ((s.1 + y) % h, s.2)
theorem shS_zero {h : Int} {ss : List (Int × Int)} (hs : ∀ x ∈ ss, 0 ≤ x.1 ∧ x.1 < h) : shS h 0 ss = ss := by
  unfold shS
  conv => rhs; rw [← List.map_id ss]
  refine List.map_congr_left fun x hx => ?_
  have := hs x hx
  show ((x.1 + 0) % h, x.2) = x
  rw [Int.add_zero, Int.emod_eq_of_lt this.1 this.2]
theorem shS_succ {h y : Int} {ss : List (Int × Int)} : rotS h (shS h y ss) = shS h (y + 1) ss := by
  unfold rotS shS
  rw [List.map_map]
  refine List.map_congr_left fun x _ => ?_
  show (((x.1 + y) % h + 1) % h, x.2) = ((x.1 + (y + 1)) % h, x.2)
  rw [Int.emod_add_emod, Int.add_assoc]
theorem shS_mem {h y : Int} {ss : List (Int × Int)} (h1 : 1 ≤ h) {x : Int × Int} (hx : x ∈ shS h y ss) : ∃ z ∈ ss, 0 ≤ x.1 ∧ x.1 < h ∧ x.2 = z.2 := by
  obtain ⟨z, hz, rfl⟩ := List.mem_map.mp hx
  exact ⟨z, hz, Int.emod_nonneg _ (by omega), Int.emod_lt_of_pos _ (by omega), rfl⟩
theorem shS_hs {h y : Int} {ss : List (Int × Int)} (h1 : 1 ≤ h) (hsh : ∀ x ∈ ss, 0 ≤ x.1 ∧ x.1 < h ∧ 1 ≤ x.2) : ∀ x ∈ shS h y ss, 0 ≤ x.1 ∧ x.1 < h ∧ 1 ≤ x.2 := fun x hx => by
  obtain ⟨z, hz, a, b, c⟩ := shS_mem h1 hx
  have := hsh z hz
  omega
theorem lawPk_shS {h : Int} {ss : List (Int × Int)} (h1 : 1 ≤ h) (hsh : ∀ x ∈ ss, 0 ≤ x.1 ∧ x.1 < h ∧ 1 ≤ x.2) : ∀ n : Nat, lawPk h (shS h (n : Int) ss) = lawPk h ss
  | 0 => by rw [Int.natCast_zero, shS_zero fun x hx => by have := hsh x hx; omega]
  | n + 1 => by
    rw [show ((n + 1 : Nat) : Int) = (n : Int) + 1 by omega, ← shS_succ, lawPk_rot h1 (shS_hs h1 hsh)]
    exact lawPk_shS h1 hsh n
theorem DrawT.shS {h most y : Int} {ss : List (Int × Int)} (h1 : 1 ≤ h) (d : DrawT h most ss) : DrawT h most (shS h y ss) := ⟨by have := d.n; unfold Ba.shS; rw [List.length_map]; omega, fun x hx => by
    obtain ⟨z, hz, a, b, c⟩ := shS_mem h1 hx
    have := d.sh z hz
    omega, fun x hx => by
    unfold Ba.shS at hx
    rw [← List.map_tail] at hx
    obtain ⟨z, hz, rfl⟩ := List.mem_map.mp hx
    exact d.tl z hz⟩
/-- one ship more -/
theorem DrawT.snoc {h most a b : Int} {ss : List (Int × Int)} (d : DrawT h most ss) (h1 : 1 ≤ h) (ha : 0 ≤ a ∧ a < h) (hb : 1 ≤ b ∧ b ≤ h) : DrawT h (most + 1) (ss ++ [(a, b)]) := ⟨by have := d.n; rw [List.length_append]; show ((ss.length + 1 : Nat) : Int) ≤ _; omega, fun x hx => by
    rcases List.mem_append.mp hx with hx | hx
    · exact d.sh x hx
    · rw [show x = (a, b) by simpa using hx]
      show 0 ≤ a ∧ a < h ∧ 1 ≤ b ∧ b ≤ 10 * h
      omega, fun x hx => by
    cases ss with
    | nil => simp at hx
    | cons y ys =>
      have hx : x ∈ ys ++ [(a, b)] := hx
      rcases List.mem_append.mp hx with hx | hx
      · exact d.tl x hx
      · rw [show x = (a, b) by simpa using hx]
        show b ≤ 2 * h
        omega⟩
end Ba

set_option maxHeartbeats 400000
namespace Ba
open PySem PySem.Spec PyProof.Rows L2
def kindW : List Str := ["table", "hour", "policy", "start", "days", "ship", "berth", "map", "plan", "number", "exchange", "changes", "room", "long", "nothing", "text", "row"]
/-- the exception classes of the package, by name -/
structure KindG (mg : Str → Option Value) (cl : Str → Addr) : Prop where
  g : ∀ x ∈ kindN, mg x = some (.ref (cl x))
  v : mg "ValueError" = none
/-- D is the i-th of them, and no other -/
structure KindC (K : PySem.W.Frag) (cl : Str → Addr) (D : Addr) (i : Nat) : Prop where
  x : ExcC K D
  k : ∀ (j : Nat) (x : Str), kindN[j]? = some x → PySem.W.kitOne K (.ref D) (.ref (cl x)) = some (decide (j = i))
  v : PySem.W.kitOne K (.ref D) (.type "ValueError") = some true
def kdT (w : Str) (b : Bool) : PyData := .tuple [.str w, .bool b]
/-- the law's list -/
def kdL (i n : Nat) : List PyData := ((kindW.take n).mapIdx fun j w => kdT w (decide (j = i)))
theorem kdL_at (i n j : Nat) (hj : j < n) : (kdL i n)[j]? = (kindW[j]?).map fun w => kdT w (decide (j = i)) := by
  unfold kdL
  rw [List.getElem?_mapIdx, List.getElem?_take, if_pos hj]
theorem kd1 {i n : Nat} {w1 : Str} (h1 : kindW[n]? = some w1) : kdL i n ++ [kdT w1 (decide (n = i))] = kdL i (n + 1) := by
  have hn : n < kindW.length := (List.getElem?_eq_some_iff.mp h1).1
  unfold kdL
  rw [List.take_add_one, h1, List.mapIdx_append, List.length_take, Nat.min_eq_left (by omega)]
  show _ = _ ++ [kdT w1 (decide (0 + n = i))]
  rw [Nat.zero_add]
theorem kd2 {i n : Nat} {w1 w2 : Str} (h1 : kindW[n]? = some w1) (h2 : kindW[n + 1]? = some w2) : kdL i n ++ [kdT w1 (decide (n = i)), kdT w2 (decide (n + 1 = i))] = kdL i (n + 2) := by
  rw [← kd1 h2, ← kd1 h1, List.append_assoc]
  rfl
theorem kd_flat {x : PyData} {i : Nat} : ∀ n : Nat, (List.range n).flatMap (fun j => if j = i then [x] else []) = if i < n then [x] else []
  | 0 => by simp
  | n + 1 => by
    rw [List.range_succ, List.flatMap_append, kd_flat n]
    by_cases h : i < n
    · rw [if_pos h, if_pos (by omega)]
      simp [show ¬ n = i by omega]
    · rw [if_neg h]
      by_cases h2 : n = i
      · simp [h2]
      · rw [if_neg (by omega)]
        simp [h2]
theorem refR {c : Addr} : ∀ u, RelV (V.ref c) u → u = Value.ref c := fun u r => r
theorem cat2 {H : Hp} {L t0 t1 L1 : Addr} {xs : List V} {ds : List PyData} {w1 w2 : Str} {b1 b2 : Bool} (e : H L = some (.lst xs)) (t : TpAll H xs ds) (h0 : H t0 = none) (h1 : (upd H t0 (.tup [.str w1, .bl b1])) t1 = none) (h2 : (upd (upd H t0 (.tup [.str w1, .bl b1])) t1 (.tup [.str w2, .bl b2])) L1 = none) {G : Hp} (hG : G = upd (upd (upd H t0 (.tup [.str w1, .bl b1])) t1 (.tup [.str w2, .bl b2])) L1 (.lst [.ref t0, .ref t1])) :
    Kp [] H G ∧ G L = some (.lst xs) ∧ G L1 = some (.lst [.ref t0, .ref t1]) ∧ TpAll G (xs ++ [.ref t0, .ref t1]) (ds ++ [kdT w1 b1, kdT w2 b2]) := by
  have k0 : Kp [] H (upd H t0 (.tup [.str w1, .bl b1])) := Kp.new h0
  have k1 := k0.trans (Kp.new h1 (o := .tup [.str w2, .bl b2]))
  have k2 := k1.trans (Kp.new h2 (o := .lst [.ref t0, .ref t1]))
  have a0 : (upd H t0 (.tup [.str w1, .bl b1])) t0 = some (.tup [.str w1, .bl b1]) := upd_same
  have a1 := (Kp.new (S := []) h1 (o := .tup [.str w2, .bl b2])).tup _ _ a0
  have a2 := (Kp.new (S := []) h2 (o := .lst [.ref t0, .ref t1])).tup _ _ a1
  have c1 : (upd (upd H t0 (.tup [.str w1, .bl b1])) t1 (.tup [.str w2, .bl b2])) t1 = some (.tup [.str w2, .bl b2]) := upd_same
  have c2 := (Kp.new (S := []) h2 (o := .lst [.ref t0, .ref t1])).tup _ _ c1
  have c3 : (upd (upd (upd H t0 (.tup [.str w1, .bl b1])) t1 (.tup [.str w2, .bl b2])) L1 (.lst [.ref t0, .ref t1])) L1 = some (.lst [.ref t0, .ref t1]) := upd_same
  rw [← hG] at k2 a2 c2 c3
  exact ⟨k2, k2.keep _ _ e (by simp), c3, (t.kp k2).append (.cons (.tup a2 (.cons (.str _) (.cons (.bl _) .nil))) (.cons (.tup c2 (.cons (.str _) (.cons (.bl _) .nil))) .nil))⟩
theorem cat1 {H : Hp} {L t0 L1 : Addr} {xs : List V} {ds : List PyData} {w1 : Str} {b1 : Bool} (e : H L = some (.lst xs)) (t : TpAll H xs ds) (h0 : H t0 = none) (h2 : (upd H t0 (.tup [.str w1, .bl b1])) L1 = none) {G : Hp} (hG : G = upd (upd H t0 (.tup [.str w1, .bl b1])) L1 (.lst [.ref t0])) :
    Kp [] H G ∧ G L = some (.lst xs) ∧ G L1 = some (.lst [.ref t0]) ∧ TpAll G (xs ++ [.ref t0]) (ds ++ [kdT w1 b1]) := by
  have k0 : Kp [] H (upd H t0 (.tup [.str w1, .bl b1])) := Kp.new h0
  have k2 := k0.trans (Kp.new h2 (o := .lst [.ref t0]))
  have a0 : (upd H t0 (.tup [.str w1, .bl b1])) t0 = some (.tup [.str w1, .bl b1]) := upd_same
  have a2 := (Kp.new (S := []) h2 (o := .lst [.ref t0])).tup _ _ a0
  have c3 : (upd (upd H t0 (.tup [.str w1, .bl b1])) L1 (.lst [.ref t0])) L1 = some (.lst [.ref t0]) := upd_same
  rw [← hG] at k2 a2 c3
  exact ⟨k2, k2.keep _ _ e (by simp), c3, (t.kp k2).append (.cons (.tup a2 (.cons (.str _) (.cons (.bl _) .nil))) .nil)⟩
section
variable {P : Program} {w : World} {K : PySem.W.Frag} {mg : Str → Option Value} {base : Heap} {f : Addr} {fd : FuncData}
abbrev spKindD (K : PySem.W.Frag) (cl : Str → Addr) : Addr → Value → Option Addr → Sp := fun a cls d => Pr fun vs H Q _ => ∃ (D : Addr) (i : Nat) (wd : Str) (dd : Addr) (fs : List (Str × V)), vs = [.ref a] ∧ cls = .ref D ∧ d = some dd ∧ H dd = some (.xd fs) ∧ KindC K cl D i ∧ kindW[i]? = some wd ∧ ∀ H', Kp [] H H' → Q (.str wd) H'
set_option maxHeartbeats 4000000 in
theorem ok_law_kind_d {cl : Str → Addr} (B : Bi mg) (KG : KindG mg cl) (F : FunS K "_law_kind" "_law_kind" s__law_kind [] [] f fd) : FnP P w K mg base (L2N.CX P w) 1 f fd p__law_kind (spKindD K cl) := by
  have S := sc__law_kind
  refine okP F S (fun a cls d vs H Q E h => ?_) (fun cdv A outer s H vs Q E p cls d hot1 hz hr h => ?_)
  · obtain ⟨_, _, _, _, _, rfl, _⟩ := h
    rfl
  · obtain ⟨D, i, wd, dd, fs, rfl, rfl, rfl, hd0, KC, hwd, q⟩ := h
    have hp : p ∈ (L2H.cxH (L2N.CX P w) P w K mg base n__law_kind "_law_kind" (defScope s__law_kind) f cdv A outer s H E p).pn := List.mem_singleton.mpr rfl
    have hot : L2H.HotC (L2H.cxH (L2N.CX P w) P w K mg base n__law_kind "_law_kind" (defScope s__law_kind) f cdv A outer s H E p) := ⟨p, hot1, hp⟩
    refine ⟨_, (pss_cons (ps_set (i := 1) S.nd rfl (Or.inl rfl) (pe_lst (pa_cons (pe_tup (pa_cons pe_str (pa_cons (pe_callB (call_isPd KC.x hp hz) (by rfl) B.isinstance (by decide +kernel) (pa_cons (pv 0) (pa_cons (pe_glob (v := .ref (cl "NoTable")) (by rfl) (KG.g "NoTable" (by decide +kernel)) rfl) pa_nil))) pa_nil))) (pa_cons (pe_tup (pa_cons pe_str (pa_cons (pe_callB (call_isPd KC.x hp hz) (by rfl) B.isinstance (by decide +kernel) (pa_cons (pv 0) (pa_cons (pe_glob (v := .ref (cl "NoHour")) (by rfl) (KG.g "NoHour" (by decide +kernel)) rfl) pa_nil))) pa_nil))) pa_nil))))
      (pss_cons (ps_set (i := 1) S.nd rfl (Or.inl rfl) (pe_op op_cat (pv 1) (pe_lst (pa_cons (pe_tup (pa_cons pe_str (pa_cons (pe_callB (call_isPd KC.x hp hz) (by rfl) B.isinstance (by decide +kernel) (pa_cons (pv 0) (pa_cons (pe_glob (v := .ref (cl "NoPolicy")) (by rfl) (KG.g "NoPolicy" (by decide +kernel)) rfl) pa_nil))) pa_nil))) (pa_cons (pe_tup (pa_cons pe_str (pa_cons (pe_callB (call_isPd KC.x hp hz) (by rfl) B.isinstance (by decide +kernel) (pa_cons (pv 0) (pa_cons (pe_glob (v := .ref (cl "NoStart")) (by rfl) (KG.g "NoStart" (by decide +kernel)) rfl) pa_nil))) pa_nil))) pa_nil)))))
      (pss_cons (ps_set (i := 1) S.nd rfl (Or.inl rfl) (pe_op op_cat (pv 1) (pe_lst (pa_cons (pe_tup (pa_cons pe_str (pa_cons (pe_callB (call_isPd KC.x hp hz) (by rfl) B.isinstance (by decide +kernel) (pa_cons (pv 0) (pa_cons (pe_glob (v := .ref (cl "NoDays")) (by rfl) (KG.g "NoDays" (by decide +kernel)) rfl) pa_nil))) pa_nil))) (pa_cons (pe_tup (pa_cons pe_str (pa_cons (pe_callB (call_isPd KC.x hp hz) (by rfl) B.isinstance (by decide +kernel) (pa_cons (pv 0) (pa_cons (pe_glob (v := .ref (cl "NoShip")) (by rfl) (KG.g "NoShip" (by decide +kernel)) rfl) pa_nil))) pa_nil))) pa_nil)))))
      (pss_cons (ps_set (i := 1) S.nd rfl (Or.inl rfl) (pe_op op_cat (pv 1) (pe_lst (pa_cons (pe_tup (pa_cons pe_str (pa_cons (pe_callB (call_isPd KC.x hp hz) (by rfl) B.isinstance (by decide +kernel) (pa_cons (pv 0) (pa_cons (pe_glob (v := .ref (cl "NoBerth")) (by rfl) (KG.g "NoBerth" (by decide +kernel)) rfl) pa_nil))) pa_nil))) (pa_cons (pe_tup (pa_cons pe_str (pa_cons (pe_callB (call_isPd KC.x hp hz) (by rfl) B.isinstance (by decide +kernel) (pa_cons (pv 0) (pa_cons (pe_glob (v := .ref (cl "NoMap")) (by rfl) (KG.g "NoMap" (by decide +kernel)) rfl) pa_nil))) pa_nil))) pa_nil)))))
      (pss_cons (ps_set (i := 1) S.nd rfl (Or.inl rfl) (pe_op op_cat (pv 1) (pe_lst (pa_cons (pe_tup (pa_cons pe_str (pa_cons (pe_callB (call_isPd KC.x hp hz) (by rfl) B.isinstance (by decide +kernel) (pa_cons (pv 0) (pa_cons (pe_glob (v := .ref (cl "NoPlan")) (by rfl) (KG.g "NoPlan" (by decide +kernel)) rfl) pa_nil))) pa_nil))) (pa_cons (pe_tup (pa_cons pe_str (pa_cons (pe_callB (call_isPd KC.x hp hz) (by rfl) B.isinstance (by decide +kernel) (pa_cons (pv 0) (pa_cons (pe_glob (v := .ref (cl "NoNumber")) (by rfl) (KG.g "NoNumber" (by decide +kernel)) rfl) pa_nil))) pa_nil))) pa_nil)))))
      (pss_cons (ps_set (i := 1) S.nd rfl (Or.inl rfl) (pe_op op_cat (pv 1) (pe_lst (pa_cons (pe_tup (pa_cons pe_str (pa_cons (pe_callB (call_isPd KC.x hp hz) (by rfl) B.isinstance (by decide +kernel) (pa_cons (pv 0) (pa_cons (pe_glob (v := .ref (cl "NoExchange")) (by rfl) (KG.g "NoExchange" (by decide +kernel)) rfl) pa_nil))) pa_nil))) (pa_cons (pe_tup (pa_cons pe_str (pa_cons (pe_callB (call_isPd KC.x hp hz) (by rfl) B.isinstance (by decide +kernel) (pa_cons (pv 0) (pa_cons (pe_glob (v := .ref (cl "NoChanges")) (by rfl) (KG.g "NoChanges" (by decide +kernel)) rfl) pa_nil))) pa_nil))) pa_nil)))))
      (pss_cons (ps_set (i := 1) S.nd rfl (Or.inl rfl) (pe_op op_cat (pv 1) (pe_lst (pa_cons (pe_tup (pa_cons pe_str (pa_cons (pe_callB (call_isPd KC.x hp hz) (by rfl) B.isinstance (by decide +kernel) (pa_cons (pv 0) (pa_cons (pe_glob (v := .ref (cl "NoRoom")) (by rfl) (KG.g "NoRoom" (by decide +kernel)) rfl) pa_nil))) pa_nil))) (pa_cons (pe_tup (pa_cons pe_str (pa_cons (pe_callB (call_isPd KC.x hp hz) (by rfl) B.isinstance (by decide +kernel) (pa_cons (pv 0) (pa_cons (pe_glob (v := .ref (cl "TooLong")) (by rfl) (KG.g "TooLong" (by decide +kernel)) rfl) pa_nil))) pa_nil))) pa_nil)))))
      (pss_cons (ps_set (i := 1) S.nd rfl (Or.inl rfl) (pe_op op_cat (pv 1) (pe_lst (pa_cons (pe_tup (pa_cons pe_str (pa_cons (pe_callB (call_isPd KC.x hp hz) (by rfl) B.isinstance (by decide +kernel) (pa_cons (pv 0) (pa_cons (pe_glob (v := .ref (cl "Nothing")) (by rfl) (KG.g "Nothing" (by decide +kernel)) rfl) pa_nil))) pa_nil))) (pa_cons (pe_tup (pa_cons pe_str (pa_cons (pe_callB (call_isPd KC.x hp hz) (by rfl) B.isinstance (by decide +kernel) (pa_cons (pv 0) (pa_cons (pe_glob (v := .ref (cl "NoText")) (by rfl) (KG.g "NoText" (by decide +kernel)) rfl) pa_nil))) pa_nil))) pa_nil)))))
      (pss_cons (ps_set (i := 1) S.nd rfl (Or.inl rfl) (pe_op op_cat (pv 1) (pe_lst (pa_cons (pe_tup (pa_cons pe_str (pa_cons (pe_callB (call_isPd KC.x hp hz) (by rfl) B.isinstance (by decide +kernel) (pa_cons (pv 0) (pa_cons (pe_glob (v := .ref (cl "NoRow")) (by rfl) (KG.g "NoRow" (by decide +kernel)) rfl) pa_nil))) pa_nil))) pa_nil))))
      (pss_cons (ps_setLcH (i := 2) (own := [("_law_word", 3), ("_law_so", 4)]) (g := (gTup K 2 (gCons (gName 3) (gCons (gName 4) gNil)))) hot S.nd rfl rfl rfl rfl (sw_true rfl rfl rfl (by decide +kernel)) (pi_listH (pv 1)) (blkOk_by (own := [("_law_word", 3), ("_law_so", 4)]) (N := n__law_kind) (sc := defScope s__law_kind) (by decide +kernel)) (fun _ _ _ _ _ => (pg_tupH hot (pgs_cons (pg_name (i := 3) S.nd rfl (Or.inl rfl)) (pgs_cons (pg_name (i := 4) S.nd rfl (Or.inl rfl)) pgs_nil)))) (fun _ _ _ _ _ => (pts_one (pt_val (pv 4)))) (fun _ _ _ _ _ => (pv 3)))
      (pss_one (ps_ret (pe_ifExp (PW.pt (pw_and (pt_cmpR op_eq (pe_callB call_len_seq (by rfl) B.len (by decide +kernel) (pa_cons (pv 2) pa_nil)) pe_int (nomark _)) (pw_and1 (pt_val (pe_callB (call_isPd KC.x hp hz) (by rfl) B.isinstance (by decide +kernel) (pa_cons (pv 0) (pa_cons (pe_bltn (v := .ty "ValueError") (by rfl) KG.v (by decide +kernel) rfl) pa_nil))))))) (pe_ix ix_list (pv 2) pe_int (fun _ _ => rfl)) pe_str))))))))))))), ?_⟩
    have h2s : (2 : Nat) ≤ sizeLine := by decide
    have hsz : (100 : Nat) ≤ sizeLine := by decide
    refine ⟨_, rfl, ⟨_, hd0⟩, .ref (cl "NoTable"), _, _, rfl, refR, KC.k 0 _ rfl, h2s, fun t0 ht0 => ⟨_, rfl, ⟨_, (Kp.new (S := []) ht0).keep _ _ hd0 (by simp)⟩, .ref (cl "NoHour"), _, _, rfl, refR, KC.k 1 _ rfl, h2s, fun t1 ht1 => ⟨h2s, fun L0 hL => ?_⟩⟩⟩
    obtain ⟨G0, hG⟩ : ∃ G, G = upd (upd (upd H t0 (.tup [.str "table", .bl (decide (0 = i))])) t1 (.tup [.str "hour", .bl (decide (1 = i))])) L0 (.lst [.ref t0, .ref t1]) := ⟨_, rfl⟩
    obtain ⟨kG0, tG0⟩ : Kp [] H G0 ∧ TpAll G0 [.ref t0, .ref t1] (kdL i 2) := by
      have k1 := (Kp.new (S := []) ht0 (o := (.tup [.str "table", .bl (decide (0 = i))]))).trans (Kp.new ht1 (o := (.tup [.str "hour", .bl (decide (1 = i))])))
      have k2 := k1.trans (Kp.new hL (o := .lst [.ref t0, .ref t1]))
      have a0 : (upd H t0 (.tup [.str "table", .bl (decide (0 = i))])) t0 = some (.tup [.str "table", .bl (decide (0 = i))]) := upd_same
      have a2 := (Kp.new (S := []) hL (o := .lst [.ref t0, .ref t1])).tup _ _ ((Kp.new (S := []) ht1 (o := (.tup [.str "hour", .bl (decide (1 = i))]))).tup _ _ a0)
      have c1 : (upd (upd H t0 (.tup [.str "table", .bl (decide (0 = i))])) t1 (.tup [.str "hour", .bl (decide (1 = i))])) t1 = some (.tup [.str "hour", .bl (decide (1 = i))]) := upd_same
      have c2 := (Kp.new (S := []) hL (o := .lst [.ref t0, .ref t1])).tup _ _ c1
      rw [← hG] at k2 a2 c2
      exact ⟨k2, .cons (.tup a2 (.cons (.str _) (.cons (.bl _) .nil))) (.cons (.tup c2 (.cons (.str _) (.cons (.bl _) .nil))) .nil)⟩
    have eG0 : G0 L0 = some (.lst [.ref t0, .ref t1]) := by rw [hG]; exact upd_same
    have nG0 : [V.ref t0, V.ref t1].length = 2 := rfl
    rw [← hG]
    generalize [V.ref t0, V.ref t1] = xs0 at tG0 eG0 nG0
    clear hG ht0 ht1 hL
    refine ⟨_, rfl, _, rfl, ⟨_, kG0.keep _ _ hd0 (by simp)⟩, .ref (cl "NoPolicy"), _, _, rfl, refR, KC.k 2 _ rfl, h2s, fun t0 ht0 => ⟨_, rfl, ⟨_, (kG0.trans (Kp.new ht0)).keep _ _ hd0 (by simp)⟩, .ref (cl "NoStart"), _, _, rfl, refR, KC.k 3 _ rfl, h2s, fun t1 ht1 => ⟨h2s, fun La hLa => ?_⟩⟩⟩
    obtain ⟨Ga, hGa⟩ : ∃ Ga, Ga = upd (upd (upd G0 t0 (.tup [.str "policy", .bl (decide (2 = i))])) t1 (.tup [.str "start", .bl (decide (3 = i))])) La (.lst [.ref t0, .ref t1]) := ⟨_, rfl⟩
    obtain ⟨k1, e1, c1, t1'⟩ := cat2 eG0 tG0 ht0 ht1 hLa hGa
    rw [← hGa]
    refine ⟨L0, La, xs0, _, rfl, rfl, e1, c1, by rw [nG0]; show 4 ≤ sizeLine; omega, fun L1 hLn => ?_⟩
    have k2 := Kp.new (S := []) hLn (o := .lst (xs0 ++ [.ref t0, .ref t1]))
    have eG1 : (upd Ga L1 (.lst (xs0 ++ [.ref t0, .ref t1]))) L1 = some (.lst (xs0 ++ [.ref t0, .ref t1])) := upd_same
    have tG1 : TpAll (upd Ga L1 (.lst (xs0 ++ [.ref t0, .ref t1]))) (xs0 ++ [.ref t0, .ref t1]) (kdL i 4) := by
      have z := t1'.kp k2
      rw [kd2 (n := 2) rfl rfl] at z
      exact z
    have kG1 := kG0.trans (k1.trans k2)
    have nG1 : (xs0 ++ [V.ref t0, V.ref t1]).length = 4 := by rw [List.length_append, nG0]; rfl
    generalize upd Ga L1 (.lst (xs0 ++ [V.ref t0, V.ref t1])) = G1 at k2 eG1 tG1 kG1 ⊢
    generalize xs0 ++ [V.ref t0, V.ref t1] = xs1 at eG1 tG1 nG1
    clear eG0 tG0 nG0 kG0 k1 e1 c1 t1' hLn ht0 ht1 hLa hGa k2
    refine ⟨_, rfl, _, rfl, ⟨_, kG1.keep _ _ hd0 (by simp)⟩, .ref (cl "NoDays"), _, _, rfl, refR, KC.k 4 _ rfl, h2s, fun t0 ht0 => ⟨_, rfl, ⟨_, (kG1.trans (Kp.new ht0)).keep _ _ hd0 (by simp)⟩, .ref (cl "NoShip"), _, _, rfl, refR, KC.k 5 _ rfl, h2s, fun t1 ht1 => ⟨h2s, fun La hLa => ?_⟩⟩⟩
    obtain ⟨Ga, hGa⟩ : ∃ Ga, Ga = upd (upd (upd G1 t0 (.tup [.str "days", .bl (decide (4 = i))])) t1 (.tup [.str "ship", .bl (decide (5 = i))])) La (.lst [.ref t0, .ref t1]) := ⟨_, rfl⟩
    obtain ⟨k1, e1, c1, t1'⟩ := cat2 eG1 tG1 ht0 ht1 hLa hGa
    rw [← hGa]
    refine ⟨L1, La, xs1, _, rfl, rfl, e1, c1, by rw [nG1]; show 6 ≤ sizeLine; omega, fun L2 hLn => ?_⟩
    have k2 := Kp.new (S := []) hLn (o := .lst (xs1 ++ [.ref t0, .ref t1]))
    have eG2 : (upd Ga L2 (.lst (xs1 ++ [.ref t0, .ref t1]))) L2 = some (.lst (xs1 ++ [.ref t0, .ref t1])) := upd_same
    have tG2 : TpAll (upd Ga L2 (.lst (xs1 ++ [.ref t0, .ref t1]))) (xs1 ++ [.ref t0, .ref t1]) (kdL i 6) := by
      have z := t1'.kp k2
      rw [kd2 (n := 4) rfl rfl] at z
      exact z
    have kG2 := kG1.trans (k1.trans k2)
    have nG2 : (xs1 ++ [V.ref t0, V.ref t1]).length = 6 := by rw [List.length_append, nG1]; rfl
    generalize upd Ga L2 (.lst (xs1 ++ [V.ref t0, V.ref t1])) = G2 at k2 eG2 tG2 kG2 ⊢
    generalize xs1 ++ [V.ref t0, V.ref t1] = xs2 at eG2 tG2 nG2
    clear eG1 tG1 nG1 kG1 k1 e1 c1 t1' hLn ht0 ht1 hLa hGa k2
    refine ⟨_, rfl, _, rfl, ⟨_, kG2.keep _ _ hd0 (by simp)⟩, .ref (cl "NoBerth"), _, _, rfl, refR, KC.k 6 _ rfl, h2s, fun t0 ht0 => ⟨_, rfl, ⟨_, (kG2.trans (Kp.new ht0)).keep _ _ hd0 (by simp)⟩, .ref (cl "NoMap"), _, _, rfl, refR, KC.k 7 _ rfl, h2s, fun t1 ht1 => ⟨h2s, fun La hLa => ?_⟩⟩⟩
    obtain ⟨Ga, hGa⟩ : ∃ Ga, Ga = upd (upd (upd G2 t0 (.tup [.str "berth", .bl (decide (6 = i))])) t1 (.tup [.str "map", .bl (decide (7 = i))])) La (.lst [.ref t0, .ref t1]) := ⟨_, rfl⟩
    obtain ⟨k1, e1, c1, t1'⟩ := cat2 eG2 tG2 ht0 ht1 hLa hGa
    rw [← hGa]
    refine ⟨L2, La, xs2, _, rfl, rfl, e1, c1, by rw [nG2]; show 8 ≤ sizeLine; omega, fun L3 hLn => ?_⟩
    have k2 := Kp.new (S := []) hLn (o := .lst (xs2 ++ [.ref t0, .ref t1]))
    have eG3 : (upd Ga L3 (.lst (xs2 ++ [.ref t0, .ref t1]))) L3 = some (.lst (xs2 ++ [.ref t0, .ref t1])) := upd_same
    have tG3 : TpAll (upd Ga L3 (.lst (xs2 ++ [.ref t0, .ref t1]))) (xs2 ++ [.ref t0, .ref t1]) (kdL i 8) := by
      have z := t1'.kp k2
      rw [kd2 (n := 6) rfl rfl] at z
      exact z
    have kG3 := kG2.trans (k1.trans k2)
    have nG3 : (xs2 ++ [V.ref t0, V.ref t1]).length = 8 := by rw [List.length_append, nG2]; rfl
    generalize upd Ga L3 (.lst (xs2 ++ [V.ref t0, V.ref t1])) = G3 at k2 eG3 tG3 kG3 ⊢
    generalize xs2 ++ [V.ref t0, V.ref t1] = xs3 at eG3 tG3 nG3
    clear eG2 tG2 nG2 kG2 k1 e1 c1 t1' hLn ht0 ht1 hLa hGa k2
    refine ⟨_, rfl, _, rfl, ⟨_, kG3.keep _ _ hd0 (by simp)⟩, .ref (cl "NoPlan"), _, _, rfl, refR, KC.k 8 _ rfl, h2s, fun t0 ht0 => ⟨_, rfl, ⟨_, (kG3.trans (Kp.new ht0)).keep _ _ hd0 (by simp)⟩, .ref (cl "NoNumber"), _, _, rfl, refR, KC.k 9 _ rfl, h2s, fun t1 ht1 => ⟨h2s, fun La hLa => ?_⟩⟩⟩
    obtain ⟨Ga, hGa⟩ : ∃ Ga, Ga = upd (upd (upd G3 t0 (.tup [.str "plan", .bl (decide (8 = i))])) t1 (.tup [.str "number", .bl (decide (9 = i))])) La (.lst [.ref t0, .ref t1]) := ⟨_, rfl⟩
    obtain ⟨k1, e1, c1, t1'⟩ := cat2 eG3 tG3 ht0 ht1 hLa hGa
    rw [← hGa]
    refine ⟨L3, La, xs3, _, rfl, rfl, e1, c1, by rw [nG3]; show 10 ≤ sizeLine; omega, fun L4 hLn => ?_⟩
    have k2 := Kp.new (S := []) hLn (o := .lst (xs3 ++ [.ref t0, .ref t1]))
    have eG4 : (upd Ga L4 (.lst (xs3 ++ [.ref t0, .ref t1]))) L4 = some (.lst (xs3 ++ [.ref t0, .ref t1])) := upd_same
    have tG4 : TpAll (upd Ga L4 (.lst (xs3 ++ [.ref t0, .ref t1]))) (xs3 ++ [.ref t0, .ref t1]) (kdL i 10) := by
      have z := t1'.kp k2
      rw [kd2 (n := 8) rfl rfl] at z
      exact z
    have kG4 := kG3.trans (k1.trans k2)
    have nG4 : (xs3 ++ [V.ref t0, V.ref t1]).length = 10 := by rw [List.length_append, nG3]; rfl
    generalize upd Ga L4 (.lst (xs3 ++ [V.ref t0, V.ref t1])) = G4 at k2 eG4 tG4 kG4 ⊢
    generalize xs3 ++ [V.ref t0, V.ref t1] = xs4 at eG4 tG4 nG4
    clear eG3 tG3 nG3 kG3 k1 e1 c1 t1' hLn ht0 ht1 hLa hGa k2
    refine ⟨_, rfl, _, rfl, ⟨_, kG4.keep _ _ hd0 (by simp)⟩, .ref (cl "NoExchange"), _, _, rfl, refR, KC.k 10 _ rfl, h2s, fun t0 ht0 => ⟨_, rfl, ⟨_, (kG4.trans (Kp.new ht0)).keep _ _ hd0 (by simp)⟩, .ref (cl "NoChanges"), _, _, rfl, refR, KC.k 11 _ rfl, h2s, fun t1 ht1 => ⟨h2s, fun La hLa => ?_⟩⟩⟩
    obtain ⟨Ga, hGa⟩ : ∃ Ga, Ga = upd (upd (upd G4 t0 (.tup [.str "exchange", .bl (decide (10 = i))])) t1 (.tup [.str "changes", .bl (decide (11 = i))])) La (.lst [.ref t0, .ref t1]) := ⟨_, rfl⟩
    obtain ⟨k1, e1, c1, t1'⟩ := cat2 eG4 tG4 ht0 ht1 hLa hGa
    rw [← hGa]
    refine ⟨L4, La, xs4, _, rfl, rfl, e1, c1, by rw [nG4]; show 12 ≤ sizeLine; omega, fun L5 hLn => ?_⟩
    have k2 := Kp.new (S := []) hLn (o := .lst (xs4 ++ [.ref t0, .ref t1]))
    have eG5 : (upd Ga L5 (.lst (xs4 ++ [.ref t0, .ref t1]))) L5 = some (.lst (xs4 ++ [.ref t0, .ref t1])) := upd_same
    have tG5 : TpAll (upd Ga L5 (.lst (xs4 ++ [.ref t0, .ref t1]))) (xs4 ++ [.ref t0, .ref t1]) (kdL i 12) := by
      have z := t1'.kp k2
      rw [kd2 (n := 10) rfl rfl] at z
      exact z
    have kG5 := kG4.trans (k1.trans k2)
    have nG5 : (xs4 ++ [V.ref t0, V.ref t1]).length = 12 := by rw [List.length_append, nG4]; rfl
    generalize upd Ga L5 (.lst (xs4 ++ [V.ref t0, V.ref t1])) = G5 at k2 eG5 tG5 kG5 ⊢
    generalize xs4 ++ [V.ref t0, V.ref t1] = xs5 at eG5 tG5 nG5
    clear eG4 tG4 nG4 kG4 k1 e1 c1 t1' hLn ht0 ht1 hLa hGa k2
    refine ⟨_, rfl, _, rfl, ⟨_, kG5.keep _ _ hd0 (by simp)⟩, .ref (cl "NoRoom"), _, _, rfl, refR, KC.k 12 _ rfl, h2s, fun t0 ht0 => ⟨_, rfl, ⟨_, (kG5.trans (Kp.new ht0)).keep _ _ hd0 (by simp)⟩, .ref (cl "TooLong"), _, _, rfl, refR, KC.k 13 _ rfl, h2s, fun t1 ht1 => ⟨h2s, fun La hLa => ?_⟩⟩⟩
    obtain ⟨Ga, hGa⟩ : ∃ Ga, Ga = upd (upd (upd G5 t0 (.tup [.str "room", .bl (decide (12 = i))])) t1 (.tup [.str "long", .bl (decide (13 = i))])) La (.lst [.ref t0, .ref t1]) := ⟨_, rfl⟩
    obtain ⟨k1, e1, c1, t1'⟩ := cat2 eG5 tG5 ht0 ht1 hLa hGa
    rw [← hGa]
    refine ⟨L5, La, xs5, _, rfl, rfl, e1, c1, by rw [nG5]; show 14 ≤ sizeLine; omega, fun L6 hLn => ?_⟩
    have k2 := Kp.new (S := []) hLn (o := .lst (xs5 ++ [.ref t0, .ref t1]))
    have eG6 : (upd Ga L6 (.lst (xs5 ++ [.ref t0, .ref t1]))) L6 = some (.lst (xs5 ++ [.ref t0, .ref t1])) := upd_same
    have tG6 : TpAll (upd Ga L6 (.lst (xs5 ++ [.ref t0, .ref t1]))) (xs5 ++ [.ref t0, .ref t1]) (kdL i 14) := by
      have z := t1'.kp k2
      rw [kd2 (n := 12) rfl rfl] at z
      exact z
    have kG6 := kG5.trans (k1.trans k2)
    have nG6 : (xs5 ++ [V.ref t0, V.ref t1]).length = 14 := by rw [List.length_append, nG5]; rfl
    generalize upd Ga L6 (.lst (xs5 ++ [V.ref t0, V.ref t1])) = G6 at k2 eG6 tG6 kG6 ⊢
    generalize xs5 ++ [V.ref t0, V.ref t1] = xs6 at eG6 tG6 nG6
    clear eG5 tG5 nG5 kG5 k1 e1 c1 t1' hLn ht0 ht1 hLa hGa k2
    refine ⟨_, rfl, _, rfl, ⟨_, kG6.keep _ _ hd0 (by simp)⟩, .ref (cl "Nothing"), _, _, rfl, refR, KC.k 14 _ rfl, h2s, fun t0 ht0 => ⟨_, rfl, ⟨_, (kG6.trans (Kp.new ht0)).keep _ _ hd0 (by simp)⟩, .ref (cl "NoText"), _, _, rfl, refR, KC.k 15 _ rfl, h2s, fun t1 ht1 => ⟨h2s, fun La hLa => ?_⟩⟩⟩
    obtain ⟨Ga, hGa⟩ : ∃ Ga, Ga = upd (upd (upd G6 t0 (.tup [.str "nothing", .bl (decide (14 = i))])) t1 (.tup [.str "text", .bl (decide (15 = i))])) La (.lst [.ref t0, .ref t1]) := ⟨_, rfl⟩
    obtain ⟨k1, e1, c1, t1'⟩ := cat2 eG6 tG6 ht0 ht1 hLa hGa
    rw [← hGa]
    refine ⟨L6, La, xs6, _, rfl, rfl, e1, c1, by rw [nG6]; show 16 ≤ sizeLine; omega, fun L7 hLn => ?_⟩
    have k2 := Kp.new (S := []) hLn (o := .lst (xs6 ++ [.ref t0, .ref t1]))
    have eG7 : (upd Ga L7 (.lst (xs6 ++ [.ref t0, .ref t1]))) L7 = some (.lst (xs6 ++ [.ref t0, .ref t1])) := upd_same
    have tG7 : TpAll (upd Ga L7 (.lst (xs6 ++ [.ref t0, .ref t1]))) (xs6 ++ [.ref t0, .ref t1]) (kdL i 16) := by
      have z := t1'.kp k2
      rw [kd2 (n := 14) rfl rfl] at z
      exact z
    have kG7 := kG6.trans (k1.trans k2)
    have nG7 : (xs6 ++ [V.ref t0, V.ref t1]).length = 16 := by rw [List.length_append, nG6]; rfl
    generalize upd Ga L7 (.lst (xs6 ++ [V.ref t0, V.ref t1])) = G7 at k2 eG7 tG7 kG7 ⊢
    generalize xs6 ++ [V.ref t0, V.ref t1] = xs7 at eG7 tG7 nG7
    clear eG6 tG6 nG6 kG6 k1 e1 c1 t1' hLn ht0 ht1 hLa hGa k2
    refine ⟨_, rfl, _, rfl, ⟨_, kG7.keep _ _ hd0 (by simp)⟩, .ref (cl "NoRow"), _, _, rfl, refR, KC.k 16 _ rfl, h2s, fun t0 ht0 => ⟨(show (1:Nat) ≤ sizeLine by omega), fun La hLa => ?_⟩⟩
    obtain ⟨Ga, hGa⟩ : ∃ Ga, Ga = upd (upd G7 t0 (.tup [.str "row", .bl (decide (16 = i))])) La (.lst [.ref t0]) := ⟨_, rfl⟩
    obtain ⟨k1, e1, c1, t1'⟩ := cat1 eG7 tG7 ht0 hLa hGa
    rw [← hGa]
    refine ⟨L7, La, xs7, _, rfl, rfl, e1, c1, by rw [nG7]; show 17 ≤ sizeLine; omega, fun L8 hLn => ?_⟩
    have k2 := Kp.new (S := []) hLn (o := .lst (xs7 ++ [.ref t0]))
    have eG8 : (upd Ga L8 (.lst (xs7 ++ [.ref t0]))) L8 = some (.lst (xs7 ++ [.ref t0])) := upd_same
    have tG8 : TpAll (upd Ga L8 (.lst (xs7 ++ [.ref t0]))) (xs7 ++ [.ref t0]) (kdL i 17) := by
      have z := t1'.kp k2
      rw [kd1 (n := 16) rfl] at z
      exact z
    have kG8 := kG7.trans (k1.trans k2)
    have nG8 : (xs7 ++ [V.ref t0]).length = 17 := by rw [List.length_append, nG7]; rfl
    generalize upd Ga L8 (.lst (xs7 ++ [V.ref t0])) = G8 at k2 eG8 tG8 kG8 ⊢
    generalize xs7 ++ [V.ref t0] = xs8 at eG8 tG8 nG8
    clear eG7 tG7 nG7 kG7 k1 e1 c1 t1' hLn ht0 hLa hGa k2
    refine ⟨_, rfl, L8, rfl, ⟨xs8, SqL.of eG8⟩, fun D hD => lc_data (walk_list (K := K) (a := L8) (xs := xs8)) (fun j => if j = i then [.str wd] else []) hD (fun H4 k4 => SqL.of (k4.keep _ _ eG8 (by simp))) ?_ ?_⟩
    · rintro j x H4 H5 hj L4 ⟨rfl, hx⟩
      obtain ⟨d, hd, hT⟩ := (tG8.kp L4.kp).get hx
      have hjn : j < 17 := by omega
      rw [kdL_at i 17 j hjn] at hd
      obtain ⟨wj, hwj⟩ : ∃ wj, kindW[j]? = some wj := ⟨_, List.getElem?_eq_getElem (show j < kindW.length from hjn)⟩
      rw [hwj] at hd
      have hd : kdT wj (decide (j = i)) = d := by injection hd
      subst hd
      cases hT with
      | tup e t =>
        cases t with
        | cons t1 t2 => cases t1; cases t2 with
          | cons t3 t4 =>
            cases t3; cases t4
            refine ⟨_, _, rfl, SqT.of e, rfl, _, _, rfl, _, _, rfl, rfl, wipe2 (by decide), _, rfl, ?_⟩
            by_cases hji : j = i
            · refine ⟨_, rfl, iteT' (decide_eq_true hji) ?_⟩
              have ew : wj = wd := by
                rw [hji, hwd] at hwj
                injection hwj with z
                exact z.symm
              refine ⟨_, rfl, L4.fin (d := .str wd) (by omega) hD hj (Kp.refl _) (if_pos hji) ?_⟩
              rw [ew]
              exact .str _
            · exact ⟨_, rfl, iteF' (decide_eq_false hji) (L4.skip hj (Kp.refl _) (if_neg hji))⟩
    · intro H4 acc k4 hacc _ hT
      have hT : TpAll H4 acc [.str wd] := by
        rw [nG8] at hT
        have hi : i < 17 := (List.getElem?_eq_some_iff.mp hwd).1
        rw [kd_flat, if_pos hi] at hT
        exact hT
      cases hT with
      | cons h1 h2 =>
        cases h1; cases h2
        have km := kG8.trans k4
        refine ⟨_, rfl, D, _, rfl, .inl (SqL.of hacc), ?_⟩
        refine ⟨rfl, true, congrArg V.bl (decide_eq_true rfl), iteT' rfl ?_⟩
        refine ⟨_, rfl, ⟨_, km.keep _ _ hd0 (by simp)⟩, .ty "ValueError", _, _, rfl, fun u r => r, KC.v, true, rfl, iteT' rfl ?_⟩
        exact ⟨_, rfl, D, _, 0, _, rfl, rfl, SqL.of hacc, rfl, q H4 km⟩
end
end Ba

set_option maxHeartbeats 400000
namespace Ba
open PySem PySem.Spec PyProof.Rows L2
/-! ### a call of _law_kind in an except suite -/
structure DefP (P : Program) (w : World) (K : PySem.W.Frag) (mg : Str → Option Value) (base : Heap) (x : Str) (k : Nat) (ps : List Str) (sp : Addr → Value → Option Addr → Sp) : Prop where
  ex : ∃ (f : Addr) (fd : FuncData), FnP P w K mg base (L2N.CX P w) k f fd ps sp ∧ mg x = some (.ref f) ∧ PySem.W.keepIn K (.ref f) = true ∧ Binds K fd ps []
section
variable {X : Cx} {k : Nat} {ps : List Str} {sp : Addr → Value → Option Addr → Sp} {x : Str} {np pos : Pos} {e : Expr} {es : List Expr} {t : TA}
theorem pe_kind {a : Addr} {oe : Obj} {cls : Value} {d : Option Addr} {pn : List (Addr × Obj)} (D : DefP X.prog X.w X.K X.mg X.base x k ps sp) (hr : L2.Room k X.A) (hz : L2N.Zn cls d oe) (hf : ∃ vs, oe.data = .fields vs) (hg : Gl X x)
    (ha : PA (X.suite a ((a, oe) :: pn)) (e :: es) t) (hdb : (x == ("__debug__" : Str)) = false := by decide) (h1 : starEach (e :: es) (X.suite a ((a, oe) :: pn)).env = (false, eval e (X.suite a ((a, oe) :: pn)).env) :: starEach es (X.suite a ((a, oe) :: pn)).env := by rfl) (h2 : (backTo pos (starEach es (X.suite a ((a, oe) :: pn)).env)).any (·.1) = false := by rfl) :
    PE (X.suite a ((a, oe) :: pn)) (.Call (.Name x np) (e :: es) [] pos) (tCallP a cls d sp E0 t) := by
  obtain ⟨f, fd, F, hm, hk, hb⟩ := D
  obtain ⟨vs, ev⟩ := hf
  exact pe_callP (X := X.suite a ((a, oe) :: pn)) (p := (a, oe)) (cls := cls) (d := d) F (L2H.roomH_mark hr (some (.ref a))) ⟨rfl, vs, ev, hz.2.2 vs ev⟩ List.mem_cons_self ⟨hz.zc, vs, ev⟩ hg hm hk hb passLB ha hdb h1 h2
end
end Ba

set_option maxHeartbeats 400000
namespace Ba
open PySem PySem.Spec PyProof.Rows L2
section
variable {X : Cx}
/-- isinstance(e, C) in a suite, e's class and dict told by the promise -/
theorem call_isPs {a : Addr} {oe : Obj} {pn : List (Addr × Obj)} {cls : Value} {d : Option Addr} (hz : L2N.Zn cls d oe) (hf : ∃ vs, oe.data = .fields vs) : CallR (X.suite a ((a, oe) :: pn)) (.builtin "isinstance") (fun xs H Q => ∃ D dd, cls = .ref D ∧ d = some dd ∧ ExcC X.K D ∧ (∃ fs, H dd = some (.xd fs)) ∧ rIsE X.K D a xs H Q) := by
  intro pins s σ H xs us Q I r h
  obtain ⟨D, dd, rfl, rfl, C, h⟩ := h
  exact call_isPd (X := X.suite a ((a, oe) :: pn)) (p := (a, oe)) C List.mem_cons_self ⟨hz.zc, hf⟩ pins s σ H xs us Q I r h
end
/-- NoRoom: its fields are read -/
structure RoomC (K : PySem.W.Frag) (mg : Str → Option Value) (C : Addr) : Prop where
  g : mg "NoRoom" = some (.ref C)
  m : PySem.W.exmOne K (.ref C) (.ref C) = some true
  x : XfC K C
  d : PySem.W.findIn K (.ref C) "on_day" = some none
  s : PySem.W.findIn K (.ref C) "ship" = some none
section
variable {P : Program} {w : World} {K : PySem.W.Frag} {mg : Str → Option Value} {base : Heap} {f : Addr} {fd : FuncData}
/-- what advance lets out: None, or the first call without a berth -/
abbrev spAdvd (CD CH : Addr) : Sp := Pr fun vs H Q _ => ∃ (ha : HA) (B : Hb) (h : Int) (pol : Pol) (N n : Nat), vs = [.ref ha.p, .int (n : Int)] ∧ HarbAt CD CH H ha B ∧ GoodB h pol N B ∧ PolOk pol ∧ B.hist.length < 1000000 ∧ N ≤ 700000 ∧ 1 ≤ n ∧ n ≤ 200 ∧
  (∀ D' (da : DA) H', daysM n B.D = some D' → (∀ x ∈ da.foot, H x = none) → Kp ha.mut H H' → HarbAt CD CH H' ⟨ha.p, ha.dx, da, ha.hl, ha.das ++ [ha.da]⟩ (advM B n D') → Q .non H') ∧
  (∀ (d e : Int) (t : Addr) H', LackD n B.D d e → Kp [] H H' → H t = none → H' t = some (.tup [.int d, .int e]) → Q (.ref t) H')
theorem ok_law_advanced {CD CH CE CN CB : Addr} {cl : Str → Addr} (B : Bi mg) (gB : mg "BerthError" = some (.ref CB)) (kB : PySem.W.kitOne K (.ref CN) (.ref CB) = some true) (KC : KindC K cl CN 12) (D_kind : DefP P w K mg base "_law_kind" 1 p__law_kind (spKindD K cl)) (cl_Harbour : Cls K CH) (E_NoRoom : RoomC K mg CN) (D_Harbour_advance : MetOk P w K mg base CH "advance" 5 p_Harbour_advance [] (spHarbAdv (K := K) CD CH CE CN))
    (F : FunS K "_law_advanced" "_law_advanced" s__law_advanced [] [] f fd) (hm : mg "_law_advanced" = some (.ref f)) : DefOk P w K mg base "_law_advanced" 6 p__law_advanced [] (spAdvd CD CH) := by
  have S := sc__law_advanced
  refine defOk F hm S (fun _ _ _ _ _ _ us hl => match us, hl with | [_, _], _ => rfl) (fun vs H Q E h => ?_) (fun cdv A outer s H vs Q E hr h => ?_)
  · obtain ⟨_, _, _, _, _, _, rfl, _⟩ := h
    rfl
  · obtain ⟨ha, Bm, h, pol, N, n, rfl, hB, g, hp, hz, hN, hn1, hn2, q1, q2⟩ := h
    refine ⟨_, (pss_cons (L2N.ps_try_as (i := 2) rfl rfl S.nd rfl rfl ⟨rfl, by decide, .inl E_NoRoom.g⟩ takesB (fun W pn xe tk _ => (pss_one (ps_expr (pe_metS (pv 0) cl_Harbour D_Harbour_advance (hr.mono (by decide)) (fun τ => L2N.passAt tk τ) (pa_cons (pv 1) pa_nil))))) (fun a oe cls d pn hz hf => (pss_one (ps_ret (pe_ifExp (PW.pt (pw_and (pt_cmpR op_eq (pe_kind D_kind (hr.mono (by decide)) hz hf rfl (pa_cons (pv 2) pa_nil)) pe_str (nomark _)) (pw_and1 (pt_val (pe_callB (call_isPs hz hf) (by rfl) B.isinstance (by decide +kernel) (pa_cons (pv 2) (pa_cons (pe_glob (v := .ref CB) (by rfl) gB rfl) pa_nil))))))) (pe_tup (pa_cons (pe_xf E_NoRoom.x E_NoRoom.d hz.zc hf (pv 2)) (pa_cons (pe_xf E_NoRoom.x E_NoRoom.s hz.zc hf (pv 2)) pa_nil))) pe_str)))))
      (pss_one (ps_ret pe_non))), ?_⟩
    obtain ⟨_, _, hf⟩ := hB.ins
    refine ⟨_, rfl, ha.p, ha.dx, _, rfl, hf, rfl, _, rfl, ha, .int (n : Int), rfl, .inr ⟨(n : Int), rfl, .inr ⟨Bm, N, n, rfl, by omega, by omega, hB, g.ok, hN, g.tabD, by rw [g.dp]; exact hp, hz, fun D' da G hd fr k b => ?_, fun d e x G hl k hx ex => ?_⟩⟩⟩
    · exact q1 D' da G hd fr k b
    · refine ⟨true, E_NoRoom.m, fun _ a ha0 => ?_, fun z => nomatch z⟩
      refine ⟨_, rfl, CN, 12, _, x, _, rfl, rfl, rfl, ex, KC, rfl, fun H2 k2 => ?_⟩
      have ex2 := k2.keep _ _ ex (by simp)
      refine ⟨rfl, true, congrArg V.bl (decide_eq_true rfl), iteT' rfl ?_⟩
      refine ⟨_, rfl, CN, x, rfl, rfl, KC.x, ⟨_, ex2⟩, .ref CB, _, _, rfl, refR, kB, true, rfl, iteT' rfl ?_⟩
      refine ⟨_, rfl, rfl, rfl, x, _, _, rfl, ex2, rfl, _, rfl, rfl, rfl, x, _, _, rfl, ex2, rfl, (show (2:Nat) ≤ sizeLine from by decide), fun t ht => q2 d e t _ hl ((k.trans k2).trans (Kp.new ht)) ((k.trans k2).free ht) upd_same⟩
end
end Ba

set_option maxHeartbeats 400000
namespace Ba
open PySem PySem.Spec PyProof.Rows L2
/-- a new harbour, start left out -/
theorem mk0_ask {K : PySem.W.Frag} {CD CH sd : Addr} {H : Hp} {tv pw : V} {h : Int} {ss : List (Int × Int)} {pol : Pol} {R : Addr → Hp → Prop} {E : XK} (st : StartC K sd) (ht : Tp H tv (tbD h ss)) (hw : Tp H pw (polD pol)) (io : InitOk h ss pol [])
    (q : ∀ ha G, (∀ y ∈ ha.all, H y = none) → Kp [] H G → HarbAt CD CH G ha (hb0 h ss pol []) → R ha.p G) (x dx : Addr) (hx : H x = none) (hdx : H dx = none) (hne : dx ≠ x) :
    spHarbInit K CD CH [.ref x, tv, pw, .ref sd] (upd (upd H dx (.own x)) x (.ins CH dx [])) (fun v H' => v = .non ∧ R x H') E := mk_ask ht hw (st.s H) io q x dx hx hdx hne
theorem two_ops {H : Hp} {u1 u2 ol : Addr} {w1 w2 : Str} {v1 v2 : V} {d1 d2 : PyData} (t1 : Tp H v1 d1) (t2 : Tp H v2 d2) (h1 : H u1 = none) (h2 : (upd H u1 (.tup [.str w1, v1])) u2 = none) (h3 : (upd (upd H u1 (.tup [.str w1, v1])) u2 (.tup [.str w2, v2])) ol = none)
    {G : Hp} (hG : G = upd (upd (upd H u1 (.tup [.str w1, v1])) u2 (.tup [.str w2, v2])) ol (.lst [.ref u1, .ref u2])) : H ol = none ∧ Kp [] H G ∧ G ol = some (.lst [.ref u1, .ref u2]) ∧ TpAll G [.ref u1, .ref u2] [.tuple [.str w1, d1], .tuple [.str w2, d2]] := by
  subst hG
  have k1 := Kp.new (S := []) h1 (o := .tup [.str w1, v1])
  have k2 := Kp.new (S := []) h2 (o := .tup [.str w2, v2])
  have k3 := Kp.new (S := []) h3 (o := .lst [.ref u1, .ref u2])
  have a1 : Tp (upd H u1 (.tup [.str w1, v1])) (.ref u1) (.tuple [.str w1, d1]) := .tup upd_same (.cons (.str _) (.cons (t1.kp k1) .nil))
  have a2 : Tp (upd (upd H u1 (.tup [.str w1, v1])) u2 (.tup [.str w2, v2])) (.ref u2) (.tuple [.str w2, d2]) := .tup upd_same (.cons (.str _) (.cons ((t2.kp k1).kp k2) .nil))
  exact ⟨(k1.trans k2).free h3, (k1.trans k2).trans k3, upd_same, .cons ((a1.kp k2).kp k3) (.cons (a2.kp k3) .nil)⟩
theorem one_op {H : Hp} {u1 ol : Addr} {w1 : Str} {v1 : V} {d1 : PyData} (t1 : Tp H v1 d1) (h1 : H u1 = none) (h3 : (upd H u1 (.tup [.str w1, v1])) ol = none)
    {G : Hp} (hG : G = upd (upd H u1 (.tup [.str w1, v1])) ol (.lst [.ref u1])) : H ol = none ∧ Kp [] H G ∧ G ol = some (.lst [.ref u1]) ∧ TpAll G [.ref u1] [.tuple [.str w1, d1]] := by
  subst hG
  have k1 := Kp.new (S := []) h1 (o := .tup [.str w1, v1])
  have k3 := Kp.new (S := []) h3 (o := .lst [.ref u1])
  have a1 : Tp (upd H u1 (.tup [.str w1, v1])) (.ref u1) (.tuple [.str w1, d1]) := .tup upd_same (.cons (.str _) (.cons (t1.kp k1) .nil))
  exact ⟨k1.free h3, k1.trans k3, upd_same, .cons (a1.kp k3) .nil⟩
section
variable {K : PySem.W.Frag} {H : Hp} {Q : VK}
theorem catA_ask {a b : Addr} {ds es : List PyData} {ys : List V} (ha : Tp H (.ref a) (.tuple ds)) (hb : H b = some (.tup ys)) (hy : TpAll H ys es) (hn : ys ≠ []) (hl : ds.length + es.length ≤ sizeLine)
    (q : ∀ p G, Kp [] H G → Tp G (.ref p) (.tuple (ds ++ es)) → Q (.ref p) G) : rCatA K (.ref a) (.ref b) H Q := by
  obtain ⟨a', xs, e, ha, hx⟩ := tp_tup ha
  cases e
  refine ⟨a, b, xs, ys, rfl, rfl, SqT.of ha, SqT.of hb, by rw [hx.length, hy.length]; exact hl, fun e => ?_, fun _ e => absurd e hn, fun _ _ p hp => q p _ (Kp.new hp) (.tup upd_same ((hx.append hy).new hp))⟩
  subst e
  cases hx
  exact q b H (Kp.refl _) (.tup hb hy)
end
section
variable {P : Program} {w : World} {K : PySem.W.Frag} {mg : Str → Option Value} {base : Heap} {f : Addr} {fd : FuncData}
abbrev spLaw (K : PySem.W.Frag) : Sp := Pr fun vs H Q _ => ∃ (sa : Addr) (ns : List Int), vs = [.ref sa] ∧ SqL K H sa (ns.map V.int) ∧ ∀ H', Q (.bl true) H'
set_option maxHeartbeats 8000000 in
theorem ok_law {CD CH CE CN CT CP CU sd : Addr} (B : Bi mg) (S_start : StartC K sd) (cl_Harbour : Cls K CH) (D__law_pail : DefOk P w K mg base "_law_pail" 1 p__law_pail [] (spPail K)) (D__law_dip : DefOk P w K mg base "_law_dip" 1 p__law_dip [] spDip)
    (D__law_hours : DefOk P w K mg base "_law_hours" 2 p__law_hours [] spHours) (D__law_table : DefOk P w K mg base "_law_table" 2 p__law_table [] spTable) (D__law_peak : DefOk P w K mg base "_law_peak" 1 p__law_peak [] spLawPeak)
    (D_mk0_Harbour : MkKOk P w K mg base "Harbour" CH 6 p_Harbour_init 2 [] (fun vs zs => vs ++ ([.ref sd] ++ zs)) (spHarbInit K CD CH)) (D__law_dock : DefOk P w K mg base "_law_dock" 1 p__law_dock [] spLawDock)
    (D__law_copied : DefOk P w K mg base "_law_copied" 1 p__law_copied [] spCopied) (D__law_days : DefOk P w K mg base "_law_days" 4 p__law_days [] spLawDays) (D__law_first_without : DefOk P w K mg base "_law_first_without" 4 p__law_first_without [] spFirstW) (D__law_same : DefOk P w K mg base "_law_same" 8 p__law_same [] (spSame K 8)) (D__law_right : DefOk P w K mg base "_law_right" 9 p__law_right [] (spRight CD CH))
    (D__law_advanced : DefOk P w K mg base "_law_advanced" 6 p__law_advanced [] (spAdvd CD CH)) (D_Harbour_replace : MetOk P w K mg base CH "replace" 6 p_Harbour_replace [] (spHarbRep K CD CH CT CP)) (D_Harbour_undo : MetOk P w K mg base CH "undo" 1 p_Harbour_undo [] (spHarbUndo CD CH CU))
    (F : FunS K "law" "law" s_law [] [] f fd) : FnOk P w K mg base (L2N.CX P w) 10 f fd p_law (spLaw K) := by
  have S := sc_law
  refine F.ok S (fun vs H Q E h => ?_) (fun cdv A outer s H vs Q E hr h => ?_)
  · obtain ⟨_, _, rfl, _⟩ := h
    rfl
  · obtain ⟨sa, ns, rfl, hsa, q⟩ := h
    refine ⟨_, (pss_cons (ps_for (passes_of rfl) rfl (pi_range1 (by rfl) B.range (pa_cons (pe_callB (call_max2 rfl) (by rfl) B.max (by decide +kernel) (pa_cons pe_int (pa_cons (pe_callB (call_min2 rfl) (by rfl) B.min (by decide +kernel) (pa_cons pe_int (pa_cons (pe_callB call_len_seq (by rfl) B.len (by decide +kernel) (pa_cons (pv 0) pa_nil)) pa_nil))) pa_nil))) pa_nil)) (pg_name (i := 1) S.nd rfl (Or.inl rfl))
      (pss_cons (ps_set (i := 2) S.nd rfl (Or.inl rfl) (pe_fn D__law_pail (hr.mono (by decide)) passLB rfl (pa_cons (pv 0) (pa_cons (pv 1) pa_nil))))
      (pss_cons (ps_set (i := 3) S.nd rfl (Or.inr rfl) (pe_fn D__law_hours (hr.mono (by decide)) passLB rfl (pa_cons (pv 2) pa_nil)))
      (pss_cons (ps_set (i := 4) S.nd rfl (Or.inl rfl) (pe_fn D__law_table (hr.mono (by decide)) passLB rfl (pa_cons (pv 2) (pa_cons (pv 3) (pa_cons pe_int pa_nil)))))
      (pss_cons (ps_set (i := 4) S.nd rfl (Or.inl rfl) (pe_tup (pa_cons (pv 3) (pa_cons (pe_op op_catA (pe_ix ix_tup (pv 4) pe_int (fun _ _ => rfl)) (pe_tup (pa_cons (pe_tup (pa_cons (pe_fn D__law_dip (hr.mono (by decide)) passLB rfl (pa_cons (pv 2) (pa_cons (pv 3) pa_nil))) (pa_cons (pe_op op_add pe_int (pe_fn D__law_dip (hr.mono (by decide)) passLB rfl (pa_cons (pv 2) (pa_cons (pv 3) pa_nil)))) pa_nil))) pa_nil))) pa_nil))))
      (pss_cons (ps_set (i := 5) S.nd rfl (Or.inl rfl) (pe_tup (pa_cons pe_str (pa_cons (pe_fn D__law_peak (hr.mono (by decide)) passLB rfl (pa_cons (pv 4) pa_nil)) pa_nil))))
      (pss_one (ps_for (passes_of rfl) rfl (pi_range1 (by rfl) B.range (pa_cons pe_int pa_nil)) (pg_name (i := 6) S.nd rfl (Or.inl rfl))
      (pss_cons (ps_set (i := 7) S.nd rfl (Or.inr rfl) (pe_fn D__law_dip (hr.mono (by decide)) passLB rfl (pa_cons (pv 2) (pa_cons (pv 3) pa_nil))))
      (pss_cons (ps_set (i := 8) S.nd rfl (Or.inl rfl) (pe_tup (pa_cons (pv 3) (pa_cons (pe_callTy call_tuple_of (by rfl) B.tuple (by decide +kernel) (pa_cons (pe_lc (own := [("_law_hour", 9), ("_law_stay", 10)]) (g := (gTup K 2 (gCons (gName 9) (gCons (gName 10) gNil)))) (tt := tYes) (by rfl) S.nd (pi_tup (pe_ix ix_tup (pv 4) pe_int (fun _ _ => rfl))) (blkOk_by (own := [("_law_hour", 9), ("_law_stay", 10)]) (N := n_law) (sc := defScope s_law) (by decide +kernel)) (fun _ _ _ _ _ => (pg_tup rfl (pgs_cons (pg_name (i := 9) S.nd rfl (Or.inl rfl)) (pgs_cons (pg_name (i := 10) S.nd rfl (Or.inl rfl)) pgs_nil)))) (fun _ _ _ _ _ => pts_nil) (fun _ _ _ _ _ => (pe_tup (pa_cons (pe_op op_mod (pe_op op_add (pv 9) (pv 7)) (pv 3)) (pa_cons (pv 10) pa_nil))))) pa_nil)) pa_nil))))
      (pss_cons (ps_par (i := 11) (j := 12) (by rfl) S.nd rfl rfl (by decide) rfl rfl (pa_cons (pe_mkK D_mk0_Harbour (hr.mono (by decide)) passLB rfl (pa_cons (pv 4) (pa_cons (pv 5) pa_nil)) pk_nil) (pa_cons (pe_fn D__law_dock (hr.mono (by decide)) passLB rfl (pa_cons (pv 5) (pa_cons (pe_tupF pa_nil) pa_nil))) pa_nil)) (by rfl))
      (pss_cons (ps_par (i := 13) (j := 14) (by rfl) S.nd rfl rfl (by decide) rfl rfl (pa_cons (pe_op op_add pe_int (pe_fn D__law_dip (hr.mono (by decide)) passLB rfl (pa_cons (pv 2) (pa_cons pe_int pa_nil)))) (pa_cons (pe_op op_add pe_int (pe_fn D__law_dip (hr.mono (by decide)) passLB rfl (pa_cons (pv 2) (pa_cons pe_int pa_nil)))) pa_nil)) (by rfl))
      (pss_cons (ps_if (PW.pt (pw_or (pt_cmpR op_ne (pe_fn D__law_peak (hr.mono (by decide)) passLB rfl (pa_cons (pv 8) pa_nil)) (pe_ix ix_tup (pv 5) pe_int (fun _ _ => rfl)) (nomark _)) (pw_or1 (pt_cmpR op_notN (pe_fn D__law_advanced (hr.mono (by decide)) passLB rfl (pa_cons (pv 11) (pa_cons (pv 13) pa_nil))) pe_non (nomark _))))) (pss_one (ps_ret pe_bl)) pss_nil)
      (pss_cons (ps_if (PW.pt (pw_or (pt_not (pt_val (pe_fn D__law_days (hr.mono (by decide)) passLB rfl (pa_cons (pv 12) (pa_cons (pv 4) (pa_cons (pv 13) pa_nil)))))) (pw_or1 (pt_cmpR op_notN (pe_met (pv 11) cl_Harbour D_Harbour_replace (hr.mono (by decide)) passLB (pa_cons (pv 8) pa_nil)) pe_non (nomark _))))) (pss_one (ps_ret pe_bl)) pss_nil)
      (pss_cons (ps_set (i := 15) S.nd rfl (Or.inl rfl) (pe_lst (pa_cons (pe_tup (pa_cons pe_str (pa_cons (pv 13) pa_nil))) (pa_cons (pe_tup (pa_cons pe_str (pa_cons (pv 8) pa_nil))) pa_nil))))
      (pss_cons (ps_set (i := 16) S.nd rfl (Or.inl rfl) (pe_fn D__law_copied (hr.mono (by decide)) passLB rfl (pa_cons (pv 12) pa_nil)))
      (pss_cons (ps_set (i := 17) S.nd rfl (Or.inl rfl) (pe_fn D__law_first_without (hr.mono (by decide)) passLB rfl (pa_cons (pv 16) (pa_cons (pv 8) (pa_cons (pv 14) pa_nil)))))
      (pss_cons (ps_if (pt_not (pt_val (pe_fn D__law_same (hr.mono (by decide)) passLB rfl (pa_cons (pe_fn D__law_advanced (hr.mono (by decide)) passLB rfl (pa_cons (pv 11) (pa_cons (pv 14) pa_nil))) (pa_cons (pv 17) pa_nil))))) (pss_one (ps_ret pe_bl)) pss_nil)
      (pss_cons (ps_if (pt_cmpR op_isN (pv 17) pe_non (nomark _)) (pss_one (ps_par (i := 12) (j := 15) (by rfl) S.nd rfl rfl (by decide) rfl rfl (pa_cons (pv 16) (pa_cons (pe_op op_cat (pv 15) (pe_lst (pa_cons (pe_tup (pa_cons pe_str (pa_cons (pv 14) pa_nil))) pa_nil))) pa_nil)) (by rfl))) pss_nil)
      (pss_cons (ps_if (pt_not (pt_val (pe_fn D__law_right (hr.mono (by decide)) passLB rfl (pa_cons (pv 11) (pa_cons (pv 12) (pa_cons (pv 15) pa_nil)))))) (pss_one (ps_ret pe_bl)) pss_nil)
      (pss_cons (ps_for (passes_of rfl) rfl (pi_range1 (by rfl) B.range (pa_cons (pe_op op_sub (pe_callB call_len_seq (by rfl) B.len (by decide +kernel) (pa_cons (pv 15) pa_nil)) pe_int) pa_nil)) (pg_name (i := 18) S.nd rfl (Or.inl rfl))
      (pss_one (ps_expr (pe_met0 (pv 11) cl_Harbour D_Harbour_undo (hr.mono (by decide)) passLB))))
      (pss_cons (ps_set (i := 12) S.nd rfl (Or.inl rfl) (pe_fn D__law_dock (hr.mono (by decide)) passLB rfl (pa_cons (pv 5) (pa_cons (pe_tupF pa_nil) pa_nil))))
      (pss_cons (ps_if (PW.pt (pw_or (pt_not (pt_val (pe_fn D__law_days (hr.mono (by decide)) passLB rfl (pa_cons (pv 12) (pa_cons (pv 4) (pa_cons (pe_op op_add (pv 13) pe_int) pa_nil)))))) (pw_or1 (pt_cmpR op_notN (pe_fn D__law_advanced (hr.mono (by decide)) passLB rfl (pa_cons (pv 11) (pa_cons pe_int pa_nil))) pe_non (nomark _))))) (pss_one (ps_ret pe_bl)) pss_nil)
      (pss_one (ps_if (pt_not (pt_val (pe_fn D__law_right (hr.mono (by decide)) passLB rfl (pa_cons (pv 11) (pa_cons (pv 12) (pa_cons (pe_lst (pa_cons (pe_tup (pa_cons pe_str (pa_cons (pv 13) pa_nil))) (pa_cons (pe_tup (pa_cons pe_str (pa_cons pe_int pa_nil))) pa_nil))) pa_nil)))))) (pss_one (ps_ret pe_bl)) pss_nil)))))))))))))))))))))))))
      (pss_one (ps_ret pe_bl))), ?_⟩
    have hmn : ∀ a : Int, (if (if a < 4 then a else 4) > 1 then (if a < 4 then a else 4) else 1) ≤ 4 ∧ 1 ≤ (if (if a < 4 then a else 4) > 1 then (if a < 4 then a else 4) else 1) := fun a => by
      by_cases h1 : a < 4
      · rw [if_pos h1]
        split <;> omega
      · rw [if_neg h1]
        decide
    have hsz : (2000000 : Nat) < sizeLine := by decide
    have h2s : (2 : Nat) ≤ sizeLine := by omega
    refine ⟨_, rfl, sa, _, rfl, .inl hsa, _, _, rfl, _, _, rfl, _, rfl, by have := hmn (ns.map V.int).length; omega, by have := hmn (ns.map V.int).length; omega, ?_⟩
    refine for_it (walk_range (lo := 0)) (fun i σ G => ∃ o1 o2 o3 o4 o5 o6 o7 o8 o9 o10 o11 o12 o13 o14 o15 o16 o17 o18 : Option V, σ = [some (.ref sa), o1, o2, o3, o4, o5, o6, o7, o8, o9, o10, o11, o12, o13, o14, o15, o16, o17, o18] ∧ Kp [] H G) ⟨none, none, none, none, none, none, none, none, none, none, none, none, none, none, none, none, none, none, rfl, Kp.refl _⟩ (fun _ _ _ _ _ => trivial) ?_ ?_
    · rintro i x σ G H0 hi ⟨o1, o2, o3, o4, o5, o6, o7, o8, o9, o10, o11, o12, o13, o14, o15, o16, o17, o18, rfl, k0⟩ ⟨rfl, rfl⟩
      have hi4 : i < 5 := by have := hmn (ns.map V.int).length; omega
      -- the pail
      refine ⟨_, rfl, _, rfl, sa, ns, i, (by show [V.ref sa, V.int (0 + (i : Int))] = _; rw [Int.zero_add]), sqL_kp k0 (by simp) hsa, by omega, fun pa G1 hpa k1 p1 => ?_⟩
      have s1 := (Sep.nil (S0 := []) H0).add (PailR pa 0) k1 PailR.ok p1 (fun x hx => by rw [show x = pa by simpa [PailR] using hx]; exact hpa)
      -- the hours
      refine ⟨_, rfl, pa, 0, rfl, p1, by decide, fun h G2 h1 h2 k2 p2 => ?_⟩
      have s2 := s1.set 0 rfl (PailR pa 3) k2 (by simp [PailR]) PailR.ok p2 (fun x hx => .inl hx)
      -- the table
      refine ⟨_, rfl, _, rfl, pa, h, 11, _, rfl, p2, by decide, h1, h2, by decide, by decide, fun tv0 ss1 G3 dT1 k3 p3 t3 => ?_⟩
      obtain ⟨ta, tb, xs, rfl, ha, hb, hx⟩ := tp_table t3
      have s3 := s2.set 0 rfl (PailR pa 103) k3 (by simp [PailR]) PailR.ok p3 (fun x hx => .inl hx)
      refine ⟨_, rfl, _, rfl, ta, _, _, _, rfl, rfl, SqT.of ha, rfl, ?_⟩
      refine ⟨_, rfl, _, rfl, pa, h, _, rfl, p3, by omega, h1, by omega, fun a0 G4 a1 a2 k4 p4 => ?_⟩
      have s4 := s3.set 0 rfl (PailR pa 104) k4 (by simp [PailR]) PailR.ok p4 (fun x hx => .inl hx)
      refine ⟨_, rfl, _, rfl, pa, h, _, rfl, p4, by omega, h1, by omega, fun b0 G5 b1 b2 k5 p5 => ⟨_, _, rfl, rfl, h2s, fun q1 hq1 => ⟨(show (1:Nat) ≤ sizeLine by omega), fun q2 hq2 => ?_⟩⟩⟩
      have s5 := s4.set 0 rfl (PailR pa 105) k5 (by simp [PailR]) PailR.ok p5 (fun x hx => .inl hx)
      have kq1 : Kp [] G5 (upd G5 q1 (.tup [.int a0, .int (1 + b0)])) := Kp.new hq1
      have eq1 : (upd G5 q1 (.tup [.int a0, .int (1 + b0)])) q1 = some (.tup [.int a0, .int (1 + b0)]) := upd_same
      have s5a := s5.ext kq1
      have k45 := (k4.trans k5).trans (kq1.mono (by simp))
      generalize upd G5 q1 (.tup [.int a0, .int (1 + b0)]) = G5a at kq1 eq1 s5a hq2 k45 ⊢
      have kq2 : Kp [] G5a (upd G5a q2 (.tup [.ref q1])) := Kp.new hq2
      have eq2 : (upd G5a q2 (.tup [.ref q1])) q2 = some (.tup [.ref q1]) := upd_same
      have s5b := s5a.ext kq2
      have eq1' := kq2.tup _ _ eq1
      have tb5 : Tp (upd G5a q2 (.tup [.ref q1])) (.ref tb) (.tuple (ss1.map shD)) := Tp.kp (Tp.kp (.tup hb hx) k45) kq2
      generalize upd G5a q2 (.tup [.ref q1]) = G5b at eq2 s5b eq1' tb5 ⊢
      refine catA_ask tb5 eq2 (.cons (.tup eq1' (.cons (.int _) (.cons (.int _) .nil))) .nil) (by simp) (by have := dT1.n; rw [List.length_map]; show ss1.length + 1 ≤ sizeLine; omega) fun p6 G6 k6 t6 => ⟨h2s, fun T0 hT0 => ?_⟩
      obtain ⟨ss, ess⟩ : ∃ z, z = ss1 ++ [(a0, 1 + b0)] := ⟨_, rfl⟩
      have kT0 : Kp [] G6 (upd G6 T0 (.tup [.int h, .ref p6])) := Kp.new hT0
      have t6 : Tp G6 (.ref p6) (.tuple (ss.map shD)) := by rw [ess, List.map_append]; exact t6
      have tT0 : Tp (upd G6 T0 (.tup [.int h, .ref p6])) (.ref T0) (tbD h ss) := .tup upd_same (.cons (.int _) (.cons (t6.kp kT0) .nil))
      have dT : DrawT h 12 ss := by rw [ess]; exact dT1.snoc h1 ⟨a1, a2⟩ ⟨by omega, by omega⟩
      have s6 := (s5b.ext k6).ext kT0
      generalize upd G6 T0 (.tup [.int h, .ref p6]) = G7 at tT0 s6 ⊢
      have hIT : isTableD (tbD h ss) = true := tab_ok h1 h2 (by decide) dT
      have hTV := tabV_of hIT
      have hsh : ∀ x ∈ ss, 0 ≤ x.1 ∧ x.1 < h ∧ 1 ≤ x.2 := fun x hx => by have := dT.sh x hx; omega
      refine ⟨_, rfl, .ref T0, h, ss, rfl, tT0, hTV.ok, fun G8 k8 => ⟨h2s, fun T1 hT1 => ?_⟩⟩
      obtain ⟨m, em⟩ : ∃ m, m = lawPk h ss := ⟨_, rfl⟩
      rw [← em]
      have hDP : DrawP h ss (.long m) := fun z e => by injection e with e; omega
      obtain ⟨hIP, hPO⟩ := pol_ok h1 (by decide) dT hDP
      have io : InitOk h ss (.long m) [] := ⟨hIT, hIP, rfl, by simp, hPO⟩
      have kT1 : Kp [] G8 (upd G8 T1 (.tup [.str "long", .int m])) := Kp.new hT1
      have tT1 : Tp (upd G8 T1 (.tup [.str "long", .int m])) (.ref T1) (polD (.long m)) := .tup upd_same (.cons (.str _) (.cons (.int _) .nil))
      have eT1 : (upd G8 T1 (.tup [.str "long", .int m])) T1 = some (.tup [.str "long", .int m]) := upd_same
      have tT0' := (tT0.kp k8).kp kT1
      have s8 := (((s6.ext k8).ext kT1).stay (fun G => Tp G (.ref T0) (tbD h ss)) tT0' (fun H H' S p k => p.kp k)).stay (fun G => Tp G (.ref T1) (polD (.long m)) ∧ G T1 = some (.tup [.str "long", .int m])) ⟨tT1, eT1⟩ (fun H H' S p k => ⟨p.1.kp k, k.tup _ _ p.2⟩)
      generalize upd G8 T1 (.tup [.str "long", .int m]) = G9 at s8 ⊢
      have sB : Sep [] H0 G9 [PailR pa (105 + 3 * ((0 : Nat) : Int)), StayR fun G => Tp G (.ref T0) (tbD h ss), StayR fun G => Tp G (.ref T1) (polD (.long m)) ∧ G T1 = some (.tup [.str "long", .int m])] := s8
      have room := room_long h1 hsh (Int.le_of_eq em.symm)
      have g0 := good0 io
      refine ⟨_, rfl, by decide, by decide, for_it (walk_range (lo := 0) (n := (3 : Int).toNat)) (fun j σ G => ∃ o6 o7 o8 o9 o10 o11 o12 o13 o14 o15 o16 o17 o18 : Option V, σ = [some (.ref sa), some (.int (0 + (i : Int))), some (.ref pa), some (.int h), some (.ref T0), some (.ref T1), o6, o7, o8, o9, o10, o11, o12, o13, o14, o15, o16, o17, o18] ∧
        Sep [] H0 G [PailR pa (105 + 3 * j), StayR fun G => Tp G (.ref T0) (tbD h ss), StayR fun G => Tp G (.ref T1) (polD (.long m)) ∧ G T1 = some (.tup [.str "long", .int m])])
        ⟨_, _, _, _, _, _, _, _, _, _, _, _, _, rfl, sB⟩ (fun _ _ _ _ _ => trivial) ?_ ?_⟩
      · rintro j x σ Ga G hj ⟨o6, o7, o8, o9, o10, o11, o12, o13, o14, o15, o16, o17, o18, rfl, sG⟩ ⟨rfl, rfl⟩
        have hj3 : j < 3 := hj
        -- the later table
        refine ⟨_, rfl, _, rfl, pa, h, _, rfl, sG.at 0 rfl, by omega, h1, by omega, fun y G1 y0 y1 k1 p1 => ?_⟩
        obtain ⟨yn, rfl⟩ := Int.eq_ofNat_of_zero_le y0
        have s1 := sG.set 0 rfl (PailR pa (105 + 3 * j + 1)) k1 (by simp [PailR]) PailR.ok p1 (fun x hx => .inl hx)
        obtain ⟨ta', tb', xs', eta, ha', hb', hx'⟩ := tp_table (s1.at 1 rfl)
        cases eta
        have hl' := tpAll_mlen hx'
        have hn24 := hTV.n
        refine ⟨_, rfl, _, rfl, T0, _, _, _, rfl, rfl, SqT.of ha', rfl, tb', rfl, ⟨xs', SqT.of hb'⟩, fun D hD => lc_data (walk_tup (K := K) (a := tb') (xs := xs')) (fun i => match ss[i]? with | some s => [shD ((s.1 + (yn : Int)) % h, s.2)] | none => []) hD (fun H4 k4 => SqT.of (k4.tup _ _ hb')) ?_ ?_⟩
        · rintro i x H4 H5 hi L4 ⟨rfl, hx2⟩
          obtain ⟨s, es, ty⟩ := tpAll_at (hx'.kp L4.kp) hx2
          obtain ⟨c, rfl, hc⟩ := tp_ship ty
          refine ⟨c, _, rfl, SqT.of hc, rfl, _, _, rfl, _, _, rfl, rfl, wipe2 (by decide), ?_⟩
          refine ⟨_, rfl, _, rfl, _, _, rfl, rfl, _, rfl, _, _, rfl, rfl, (by show (0 : Int) < h; omega), _, rfl, h2s, fun t1 ht1 => ?_⟩
          exact L4.fin (d := shD ((s.1 + (yn : Int)) % h, s.2)) (by omega) hD hi (Kp.new ht1) (by rw [es]) (.tup upd_same (.cons (.int _) (.cons (.int _) .nil)))
        intro H4 acc k4 hacc _ hT
        rw [hl', flatMap_one ss _ (fun s => shD ((s.1 + (yn : Int)) % h, s.2)) (fun i x e => by rw [e])] at hT
        obtain ⟨sl, esl⟩ : ∃ sl, sl = shS h (yn : Int) ss := ⟨_, rfl⟩
        have hT : TpAll H4 acc (sl.map shD) := by
          rw [esl]
          unfold shS
          rw [List.map_map]
          exact hT
        refine ⟨D, acc, rfl, .inl ⟨SqL.of hacc, fun L1 hL1 => ⟨h2s, fun L2 hL2 => ?_⟩⟩⟩
        have kL1 := Kp.new (S := []) hL1 (o := .tup acc)
        have kL2 := Kp.new (S := []) hL2 (o := .tup [.int h, .ref L1])
        have tl : Tp (upd (upd H4 L1 (.tup acc)) L2 (.tup [.int h, .ref L1])) (.ref L2) (tbD h sl) := .tup upd_same (.cons (.int _) (.cons (.tup (kL2.tup _ _ upd_same) ((hT.kp kL1).kp kL2)) .nil))
        have s2 := (s1.ext (k4.trans (kL1.trans kL2))).stay (fun G => Tp G (.ref L2) (tbD h sl)) tl (fun H H' S p k => p.kp k)
        generalize upd (upd H4 L1 (.tup acc)) L2 (.tup [.int h, .ref L1]) = G2 at s2 ⊢
        have dS : DrawT h 12 sl := by rw [esl]; exact dT.shS h1
        have hISl : isTableD (tbD h sl) = true := tab_ok h1 h2 (by decide) dS
        have hTVl := tabV_of hISl
        have epk : lawPk h sl = m := by rw [esl, lawPk_shS h1 hsh, em]
        obtain ⟨hIPl, _⟩ := pol_ok h1 (by decide) dS (pol := .long m) (fun z e => by injection e with e; omega)
        -- the harbour and the dock
        refine ⟨_, rfl, _, rfl, rfl, rfl, mk0_ask S_start (s2.at 1 rfl) (s2.at 2 rfl).1 io fun ha G3 fr3 k3 b3 => ?_⟩
        have s3 := s2.add (HbR CD CH ha (hb0 h ss (.long m) [])) k3 HbR.ok b3 fr3
        refine ⟨_, rfl, (show (0:Nat) ≤ sizeLine from by decide), fun e0 oe he0 hd0 hc0 => ?_⟩
        have ke := Kp.new (S := []) he0 (o := .frz oe (.tup []))
        have se0 : StrF (upd G3 e0 (.frz oe (.tup []))) (.ref e0) [] := ⟨e0, oe, [], rfl, upd_same, hd0, .nil⟩
        have s4 := s3.ext ke
        generalize upd G3 e0 (.frz oe (.tup [])) = G4 at s4 se0 ⊢
        refine ⟨.ref T1, .ref e0, .long m, [], rfl, (s4.at 2 rfl).1, hPO, se0, io.nd, by simp, fun l0 G5 fl0 k5 hl0 => ⟨_, _, rfl, ?_⟩⟩
        have s5 := s4.add (LDR 2000 l0 (hb0 h ss (.long m) []).D) k5 LDR.ok (hl0.tab h ss) fl0
        -- the numbers of days
        refine ⟨_, rfl, pa, 12, _, rfl, s5.at 0 rfl, by omega, by decide, by decide, fun f0 G6 fa fb k6 p6 => ⟨_, _, rfl, rfl, ?_⟩⟩
        have s6 := s5.set 0 rfl (PailR pa (105 + 3 * j + 1 + 1)) k6 (by simp [PailR]) PailR.ok p6 (fun x hx => .inl hx)
        refine ⟨_, rfl, pa, 12, _, rfl, s6.at 0 rfl, by omega, by decide, by decide, fun f1 G7 fc fd k7 p7 => ⟨_, _, rfl, rfl, _, _, rfl, ?_⟩⟩
        have s7 := (s6.set 0 rfl (PailR pa (105 + 3 * j + 1 + 1 + 1)) k7 (by simp [PailR]) PailR.ok p7 (fun x hx => .inl hx)).view 0 rfl (PailR pa (105 + 3 * (j + 1 : Nat))) (fun p => PailAt.mono p (by push_cast; omega)) PailR.ok (fun x hx => hx)
        obtain ⟨n0, rfl⟩ := Int.eq_ofNat_of_zero_le fa
        obtain ⟨n1, rfl⟩ := Int.eq_ofNat_of_zero_le fc
        obtain ⟨D1, hd1, _⟩ := room (1 + n0)
        obtain ⟨D4, hd4, _⟩ := room (1 + n0 + 3)
        -- the same peak; the first days
        refine ⟨_, rfl, .ref L2, h, sl, rfl, s7.at 3 rfl, hTVl.ok, fun G8 k8 => ?_⟩
        have s8 := s7.ext k8
        rw [epk]
        refine ⟨_, rfl, T1, _, _, _, rfl, rfl, SqT.of (s8.at 2 rfl).2, rfl, rfl, _, rfl, ?_⟩
        refine iteF' (by simp) ?_
        obtain ⟨B1, eB1⟩ : ∃ z, z = advM (hb0 h ss (.long m) []) (1 + n0) D1 := ⟨_, rfl⟩
        have est1 : stepB (hb0 h ss (.long m) []) (.adv (1 + n0)) = some B1 := by
          show (daysM (1 + n0) (dk0 h ss (.long m) [])).map (advM (hb0 h ss (.long m) []) (1 + n0)) = _
          rw [hd1, eB1]
          rfl
        have g1 : GoodB h (.long m) 2288 B1 := g0.step (M := 12) (o := .adv (1 + n0)) ⟨by omega, by omega⟩ est1
        have hd1D : B1.D = D1 := by rw [eB1]; rfl
        have hh1 : B1.hist.length = 1 := by rw [eB1]; rfl
        refine ⟨_, rfl, _, rfl, ha, hb0 h ss (.long m) [], h, .long m, _, 1 + n0, rfl, s8.at 4 rfl, g0, hPO, (by show (0:Nat) < 1000000; decide), by decide, by omega, by omega, fun D' da G9 hd' fr9 k9 b9 => ?_, fun d e t G9 hlk _ _ _ => by
          have := lackD_none hlk
          rw [show (hb0 h ss (.long m) []).D = dk0 h ss (.long m) [] from rfl, hd1] at this
          cases this⟩
        rw [show (hb0 h ss (.long m) []).D = dk0 h ss (.long m) [] from rfl, hd1] at hd'
        cases hd'
        rw [← eB1] at b9
        have s9 := s8.set 4 rfl (HbR CD CH ⟨ha.p, ha.dx, da, ha.hl, ha.das ++ [ha.da]⟩ B1) k9 (ha.mut_all) HbR.ok b9 (adv_all ha da fr9)
        obtain ⟨hx, ehx⟩ : ∃ z : HA, z = ⟨ha.p, ha.dx, da, ha.hl, ha.das ++ [ha.da]⟩ := ⟨_, rfl⟩
        have epx : hx.p = ha.p := by rw [ehx]
        rw [← ehx] at s9
        refine ⟨rfl, _, rfl, ?_⟩
        refine iteF' rfl ?_
        -- the dock's days, the later timetable
        refine ⟨_, rfl, _, rfl, _, rfl, l0, .ref T0, dk0 h ss (.long m) [], D1, 1 + n0, 2000, rfl, by omega, s9.at 5 rfl, g0.ok, by decide, s9.at 1 rfl, hTV.ok, hd1, fun G10 k10 hl10 => ?_⟩
        have s10 := s9.set 5 rfl (LDR 4000 l0 B1.D) k10 (fun x hx => hx) LDR.ok (by rw [hd1D]; exact LDAt.mono hl10 (by omega)) (fun x hx => .inl hx)
        refine ⟨_, rfl, ?_⟩
        refine iteF' rfl ?_
        have b10 := s10.at 4 rfl
        obtain ⟨_, _, f10⟩ := HarbAt.ins b10
        refine ⟨_, rfl, hx.p, hx.dx, _, by rw [epx], f10, rfl, _, rfl, rep_askP epx b10 g1 hPO (by omega) (s10.at 3 rfl) hISl hIPl fun da2 G11 fr11 k11 b11 => ?_⟩
        obtain ⟨B2, eB2⟩ : ∃ z, z = repM B1 sl := ⟨_, rfl⟩
        rw [← eB2] at b11
        have est2 : stepB B1 (.rep sl) = some B2 := by rw [eB2]; rfl
        have g2 : GoodB h (.long m) 2576 B2 := g1.step (M := 12) (o := .rep sl) ⟨hISl, hIPl⟩ est2
        have hh2 : B2.hist.length = 2 := by rw [eB2]; show (B1.hist ++ _).length = 2; rw [List.length_append, hh1]; rfl
        have s11 := s10.set 4 rfl (HbR CD CH ⟨hx.p, hx.dx, da2, hx.hl, hx.das ++ [hx.da]⟩ B2) k11 (hx.mut_all) HbR.ok b11 (adv_all hx da2 fr11)
        obtain ⟨hy, ehy⟩ : ∃ z : HA, z = ⟨hx.p, hx.dx, da2, hx.hl, hx.das ++ [hx.da]⟩ := ⟨_, rfl⟩
        have epy : hy.p = ha.p := by rw [ehy]; exact epx
        rw [← ehy] at s11
        refine ⟨rfl, _, rfl, ?_⟩
        refine iteF' rfl ?_
        have s12 := s11.view 5 rfl (LDR 4000 l0 B2.D) (fun p => by rw [eB2]; exact LDAt.tab p B1.h sl) LDR.ok (fun x hx => hx)
        -- the operations
        refine ⟨_, rfl, h2s, fun u1 hu1 => ⟨_, rfl, h2s, fun u2 hu2 => ⟨h2s, fun ol hol => ?_⟩⟩⟩
        obtain ⟨ops2, eops2⟩ : ∃ z : List Op, z = [.adv (1 + n0), .rep sl] := ⟨_, rfl⟩
        have hr2 : opsB (hb0 h ss (.long m) []) ops2 = some B2 := by
          rw [eops2, opsB_cons, est1]
          show opsB B1 [.rep sl] = _
          rw [opsB_cons, est2]
          rfl
        have ho2 : ∀ o ∈ ops2, OpOk h (.long m) 12 o := fun o ho => by
          rw [eops2] at ho
          rcases List.mem_cons.mp ho with rfl | ho
          · exact ⟨by omega, by omega⟩
          · rw [show o = Op.rep sl by simpa using ho]
            exact ⟨hISl, hIPl⟩
        generalize hG13 : upd (upd (upd G11 u1 _) u2 _) ol _ = G13
        obtain ⟨fol, k13, e13, t13⟩ := two_ops (d1 := .int ((1 + n0 : Nat) : Int)) (d2 := tbD h sl) (.int _) (s12.at 3 rfl) hu1 hu2 hol hG13.symm
        have s14 := s12.add (OpsR ol (ops2.map (opD h))) k13 OpsR.ok ⟨_, e13, by rw [eops2]; exact t13⟩ (fun x hx => by rw [show x = ol by simpa [OpsR] using hx]; exact fol)
        -- the copy
        refine ⟨_, rfl, l0, _, _, rfl, s14.at 5 rfl, by decide, fun l' G15 fr15 k15 hl15 => ?_⟩
        have s15 := s14.add (LDR 4000 l' B2.D) k15 LDR.ok hl15 fr15
        refine ⟨_, rfl, _, rfl, _, rfl, l', .ref L2, B2.D, 1 + n1, 4000, rfl, by omega, s15.at 7 rfl, g2.ok.mono (by omega), by decide, by rw [g2.dh, g2.ds, show B2.ss = sl by rw [eB2]; rfl]; exact s15.at 3 rfl, g2.tabD, fun D' G16 hd k16 hl16 => ?_, fun d e p G16 hlk hp hpf k16 ep16 => ?_⟩
        · have s16 := s15.set 7 rfl (LDR 100000 l' D') k16 (fun x hx => hx) LDR.ok (LDAt.mono hl16 (by omega)) (fun x hx => .inl hx)
          refine ⟨_, rfl, _, rfl, hy, B2, h, .long m, 4000, 1 + n1, (by rw [epy]; rfl), s16.at 4 rfl, g2.mono (by omega), hPO, by omega, by decide, by omega, by omega, fun D'' da G17 hd' fr17 k17 b17 => ?_, fun d e t G17 hlk _ _ _ => by
            have := lackD_none hlk
            rw [hd] at this
            cases this⟩
          rw [hd] at hd'
          cases hd'
          obtain ⟨B3, eB3⟩ : ∃ z, z = advM B2 (1 + n1) D' := ⟨_, rfl⟩
          rw [← eB3] at b17
          have s17 := s16.set 4 rfl (HbR CD CH ⟨hy.p, hy.dx, da, hy.hl, hy.das ++ [hy.da]⟩ B3) k17 (hy.mut_all) HbR.ok b17 (adv_all hy da fr17)
          obtain ⟨hz, ehz⟩ : ∃ z : HA, z = ⟨hy.p, hy.dx, da, hy.hl, hy.das ++ [hy.da]⟩ := ⟨_, rfl⟩
          have epz : hz.p = ha.p := by rw [ehz]; exact epy
          rw [← ehz] at s17
          refine ⟨_, rfl, .non, .non, .none, rfl, .non, .non, rfl, by decide, by decide, by decide, fun G18 k18 => ⟨_, rfl, ?_⟩⟩
          have s18 := s17.ext k18
          refine iteF' rfl ?_
          refine ⟨_, rfl, rfl, _, rfl, ?_⟩
          refine iteT' (decide_eq_true rfl) ?_
          obtain ⟨os2, eo2, to2⟩ := s18.at 6 rfl
          have hos2 : os2.length = ops2.length := tpAll_mlen to2
          have hl2 : ops2.length = 2 := by rw [eops2]; rfl
          refine ⟨_, rfl, _, rfl, _, rfl, h2s, fun u3 hu3 => ⟨(show (1:Nat) ≤ sizeLine by omega), fun v3 hv3 => ?_⟩⟩
          generalize hG19 : upd (upd G18 u3 _) v3 _ = G19
          obtain ⟨_, k19, e19, t19⟩ := one_op (d1 := .int ((1 + n1 : Nat) : Int)) (.int _) hu3 hv3 hG19.symm
          refine ⟨ol, v3, os2, _, rfl, rfl, k19.keep _ _ eo2 (by simp), e19, by rw [hos2, hl2]; show 3 ≤ sizeLine; omega, fun ol2 hol2 => ⟨_, _, rfl, ?_⟩⟩
          obtain ⟨ops3, eops3⟩ : ∃ z : List Op, z = ops2 ++ [.adv (1 + n1)] := ⟨_, rfl⟩
          have hl3 : ops3.length = 3 := by rw [eops3, eops2]; rfl
          have est3 : stepB B2 (.adv (1 + n1)) = some B3 := by
            show (daysM (1 + n1) B2.D).map (advM B2 (1 + n1)) = _
            rw [hd, eB3]
            rfl
          have hr3 : opsB (hb0 h ss (.long m) []) ops3 = some B3 := by
            rw [eops3, opsB_snoc, hr2]
            exact est3
          have ho3 : ∀ o ∈ ops3, OpOk h (.long m) 12 o := fun o ho => by
            rw [eops3] at ho
            rcases List.mem_append.mp ho with ho | ho
            · exact ho2 o ho
            · rw [show o = Op.adv (1 + n1) by simpa using ho]
              exact ⟨by omega, by omega⟩
          have k20 : Kp [] G19 (upd G19 ol2 (.lst (os2 ++ [.ref u3]))) := Kp.new hol2
          have s20 := ((s18.ext k19).add (OpsR ol2 (ops3.map (opD h))) k20 OpsR.ok ⟨_, upd_same, by
            rw [eops3, List.map_append]
            exact ((to2.kp k19).append t19).kp k20⟩ (fun x hx => by rw [show x = ol2 by simpa [OpsR] using hx]; exact hol2)).view 7 rfl (LDR 100000 l' B3.D) (fun p => by rw [eB3]; exact p) LDR.ok (fun x hx => hx)
          have eo3 : ops3 = Op.adv (1 + n0) :: [.rep sl, .adv (1 + n1)] := by rw [eops3, eops2]; rfl
          have gN := good_ops g0 ho3 hr3
          obtain ⟨osN, eN, tN⟩ := s20.at 8 rfl
          obtain ⟨ehN, _, _⟩ := ops_hist (B0 := hb0 h ss (.long m) []) rfl hr3
          have hosN : osN.length = (ops3).length := tpAll_mlen tN
          refine ⟨_, rfl, _, rfl, _, rfl, hz, l', ol2, B3, osN, _, _, (by rw [epz]; rfl), s20.at 4 rfl, s20.at 7 rfl, gN.day, gN.ok, by omega, eN, by rw [ehN]; exact tN, by rw [ehN]; exact opsOk_D h _ (rep_ships ho3) (by omega), fun GN kN => ⟨_, rfl, ?_⟩⟩
          refine iteF' rfl ?_
          have sN := s20.ext kN
          have eN' := kN.keep _ _ eN (by simp)
          -- undo
          refine ⟨_, rfl, ol2, osN, rfl, .inl (SqL.of eN'), _, _, rfl, rfl, _, rfl, by omega, by omega, ?_⟩
          refine for_it (walk_range (lo := 0) (n := ((osN.length : Int) - 1).toNat)) (fun i2 σ G => ∃ (o6 o7 o8 o9 o10 o12 o14 o15 o16 o17 o18 : Option V) (hc : HA) (B' : Hb), σ = [some (.ref sa), some (.int (0 + (i : Int))), some (.ref pa), some (.int h), some (.ref T0), some (.ref T1), o6, o7, o8, o9, o10, some (.ref ha.p), o12, some (.int ((1 + n0 : Nat) : Int)), o14, o15, o16, o17, o18] ∧ hc.p = ha.p ∧ opsB (hb0 h ss (.long m) []) ((ops3).take ((ops3).length - i2)) = some B' ∧
            Sep [] H0 G [PailR pa (105 + 3 * (j + 1 : Nat)), StayR fun G => Tp G (.ref T0) (tbD h ss), StayR fun G => Tp G (.ref T1) (polD (.long m)) ∧ G T1 = some (.tup [.str "long", .int m]), StayR fun G => Tp G (.ref L2) (tbD h sl), HbR CD CH hc B'])
            ⟨_, _, _, _, _, _, _, _, _, _, _, hz, B3, rfl, epz, by rw [Nat.sub_zero, List.take_length]; exact hr3, sN.take 5⟩ (fun _ _ _ _ _ => trivial) ?_ ?_
          · rintro i2 x σ G0 G hi2 ⟨o6, o7, o8, o9, o10, o12, o14, o15, o16, o17, o18, hc, B', rfl, epc, hrc, sG⟩ ⟨rfl, rfl⟩
            have hlt : (ops3).length - (i2 + 1) < (ops3).length := by omega
            have etk : (ops3).take ((ops3).length - i2) = (ops3).take ((ops3).length - (i2 + 1)) ++ [(ops3)[(ops3).length - (i2 + 1)]] := by
              rw [show (ops3).length - i2 = (ops3).length - (i2 + 1) + 1 by omega, List.take_add_one, List.getElem?_eq_getElem hlt]
              rfl
            rw [etk] at hrc
            obtain ⟨Bu, e1, hrp, hh1, hh2⟩ := ops_undo hrc
            have b2 := sG.at 4 rfl
            obtain ⟨_, _, hf⟩ := HarbAt.ins b2
            refine ⟨_, rfl, hc.p, hc.dx, _, by rw [epc], hf, rfl, hc, B', (by rw [← epc]; rfl), b2, .inr ⟨Bu.hist, e1, hh1, fun da das G3 eda k3 b3 => ?_⟩⟩
            rw [hh2] at b3
            have gu := (HGrow.refl hc G).undo eda
            have s3 := sG.set 4 rfl (HbR CD CH ⟨hc.p, hc.dx, da, hc.hl, das⟩ Bu) k3 (hc.mut_all) HbR.ok b3 (fun x hx => gu.sub x hx)
            exact ⟨_, _, _, _, _, _, _, _, _, _, _, ⟨hc.p, hc.dx, da, hc.hl, das⟩, Bu, rfl, epc, hrp, s3⟩
          · rintro σ G ⟨o6, o7, o8, o9, o10, o12, o14, o15, o16, o17, o18, hc, B', rfl, epc, hrc, sG⟩
            have e1 : (ops3).take ((ops3).length - ((osN.length : Int) - 1).toNat) = [Op.adv (1 + n0)] := by
              rw [hosN, show (ops3).length - ((((ops3).length : Nat) : Int) - 1).toNat = 1 by omega, eo3]
              rfl
            rw [e1, opsB_cons, est1] at hrc
            have hrc : some B1 = some B' := hrc
            cases hrc
            refine ⟨_, rfl, (show (0:Nat) ≤ sizeLine from by decide), fun e9 oe9 he9 hd9 hc9 => ?_⟩
            have ke9 := Kp.new (S := []) he9 (o := .frz oe9 (.tup []))
            have se9 : StrF (upd G e9 (.frz oe9 (.tup []))) (.ref e9) [] := ⟨e9, oe9, [], rfl, upd_same, hd9, .nil⟩
            have sP := sG.ext ke9
            generalize upd G e9 (.frz oe9 (.tup [])) = GP at sP se9 ⊢
            refine ⟨.ref T1, .ref e9, .long m, [], rfl, (sP.at 2 rfl).1, hPO, se9, io.nd, by simp, fun l9 GQ fl9 kQ hl9 => ?_⟩
            have sQ := sP.add (LDR 2000 l9 (dk0 h ss (.long m) [])) kQ LDR.ok (hl9.tab h ss) fl9
            refine ⟨_, rfl, _, rfl, _, rfl, _, _, rfl, rfl, l9, .ref T0, dk0 h ss (.long m) [], D4, 1 + n0 + 3, 2000, rfl, by omega, sQ.at 5 rfl, g0.ok, by decide, sQ.at 1 rfl, hTV.ok, hd4, fun GR kR hl10 => ⟨_, rfl, ?_⟩⟩
            refine iteF' rfl ?_
            have hd3 : daysM 3 B1.D = some D4 := by
              have z := hd4
              rw [daysM_add, hd1] at z
              rw [hd1D]
              exact z
            obtain ⟨B4, eB4⟩ : ∃ z, z = advM B1 3 D4 := ⟨_, rfl⟩
            have sR := sQ.set 5 rfl (LDR 100000 l9 B4.D) kR (fun x hx => hx) LDR.ok (by rw [eB4]; exact LDAt.mono hl10 (by omega)) (fun x hx => .inl hx)
            refine ⟨_, rfl, hc, B1, h, .long m, 2288, 3, (by rw [epc]; rfl), sR.at 4 rfl, g1, hPO, by omega, by decide, by decide, by decide, fun D'' da GS hd' frS kS bS => ?_, fun d e t GS hlk _ _ _ => by
              have := lackD_none hlk
              rw [hd3] at this
              cases this⟩
            rw [hd3] at hd'
            cases hd'
            rw [← eB4] at bS
            have sS := sR.set 4 rfl (HbR CD CH ⟨hc.p, hc.dx, da, hc.hl, hc.das ++ [hc.da]⟩ B4) kS (hc.mut_all) HbR.ok bS (adv_all hc da frS)
            refine ⟨rfl, _, rfl, ?_⟩
            refine iteF' rfl ?_
            have est4 : stepB B1 (.adv 3) = some B4 := by
              show (daysM 3 B1.D).map (advM B1 3) = _
              rw [hd3, eB4]
              rfl
            have g4 : GoodB h (.long m) 2576 B4 := g1.step (M := 12) (o := .adv 3) ⟨by omega, by omega⟩ est4
            have hr4 : opsB (hb0 h ss (.long m) []) [.adv (1 + n0), .adv 3] = some B4 := by
              rw [opsB_cons, est1]
              show opsB B1 [.adv 3] = _
              rw [opsB_cons, est4]
              rfl
            obtain ⟨ehZ, _, _⟩ := ops_hist (B0 := hb0 h ss (.long m) []) rfl hr4
            refine ⟨_, rfl, _, rfl, _, rfl, h2s, fun v1 hv1 => ⟨h2s, fun v2 hv2 => ⟨h2s, fun vl hvl => ?_⟩⟩⟩
            generalize hGT : upd (upd (upd GS v1 _) v2 _) vl _ = GT
            obtain ⟨_, kT, eT, tT⟩ := two_ops (d1 := .int ((1 + n0 : Nat) : Int)) (d2 := .int ((3 : Nat) : Int)) (.int _) (.int _) hv1 hv2 hvl hGT.symm
            have sT := sS.ext kT
            have hz4 : ∀ z, Op.rep z ∈ [Op.adv (1 + n0), Op.adv 3] → z.length ≤ 24 := fun z hz => by simp at hz
            refine ⟨⟨hc.p, hc.dx, da, hc.hl, hc.das ++ [hc.da]⟩, l9, vl, B4, _, 100000, _, (by show _ = [V.ref hc.p, _, _]; rw [epc]; rfl), sT.at 4 rfl, sT.at 5 rfl, g4.day, g4.ok.mono (by decide), by decide, eT, by rw [ehZ]; exact tT, by rw [ehZ]; exact opsOk_D h _ hz4 (show (2:Nat) ≤ 100000 by decide), fun GU kU => ⟨_, rfl, ?_⟩⟩
            refine iteF' rfl ?_
            exact ⟨_, _, _, _, _, _, _, _, _, _, _, _, _, rfl, (sT.ext kU).take 3⟩
        · have s16 := (s15.set 7 rfl (StayR fun _ => True) k16 (fun x hx => hx) (StayR.ok (fun _ _ _ _ _ => trivial)) trivial (fun x hx => by simp [StayR] at hx)).stay (fun G => G p = some (.tup [.int d, .int e])) ep16 (fun H H' S q k => k.tup _ _ q)
          have hnone := lackD_none hlk
          refine ⟨_, rfl, _, rfl, hy, B2, h, .long m, 4000, 1 + n1, (by rw [epy]; rfl), s16.at 4 rfl, g2.mono (by omega), hPO, by omega, by decide, by omega, by omega, (fun D'' da G17 hd' _ _ _ => by rw [hnone] at hd'; cases hd'), fun d' e' t G17 hlk' k17 ht et => ?_⟩
          obtain ⟨rfl, rfl⟩ := lackD_one hlk hlk'
          have s17 := s16.ext k17
          have ep17 : G17 p = some (.tup [.int d, .int e]) := s17.at 8 rfl
          refine ⟨_, rfl, .ref t, .ref p, .tuple [.int d, .int e], rfl, .tup (SqT.of et) (.cons (.int _) (.cons (.int _) .nil)), .tup (SqT.of ep17) (.cons (.int _) (.cons (.int _) .nil)), rfl, (by show max 0 (max 0 0) + 1 < 8; decide), by decide, (by show max 2 (max 0 (max 0 0)) ≤ 1000000; decide), fun G18 k18 => ⟨_, rfl, ?_⟩⟩
          refine iteF' rfl ?_
          refine ⟨_, rfl, rfl, _, rfl, ?_⟩
          refine iteF' (decide_eq_false (fun z => nomatch z)) ?_
          have s18 := s17.ext k18
          have hl2 : ops2.length = 2 := by rw [eops2]; rfl
          have gN := good_ops g0 ho2 hr2
          obtain ⟨osN, eN, tN⟩ := s18.at 6 rfl
          obtain ⟨ehN, _, _⟩ := ops_hist (B0 := hb0 h ss (.long m) []) rfl hr2
          have hosN : osN.length = (ops2).length := tpAll_mlen tN
          refine ⟨_, rfl, _, rfl, _, rfl, hy, l0, ol, B2, osN, _, _, (by rw [epy]; rfl), s18.at 4 rfl, s18.at 5 rfl, gN.day, gN.ok, by omega, eN, by rw [ehN]; exact tN, by rw [ehN]; exact opsOk_D h _ (rep_ships ho2) (by omega), fun GN kN => ⟨_, rfl, ?_⟩⟩
          refine iteF' rfl ?_
          have sN := s18.ext kN
          have eN' := kN.keep _ _ eN (by simp)
          -- undo
          refine ⟨_, rfl, ol, osN, rfl, .inl (SqL.of eN'), _, _, rfl, rfl, _, rfl, by omega, by omega, ?_⟩
          refine for_it (walk_range (lo := 0) (n := ((osN.length : Int) - 1).toNat)) (fun i2 σ G => ∃ (o6 o7 o8 o9 o10 o12 o14 o15 o16 o17 o18 : Option V) (hc : HA) (B' : Hb), σ = [some (.ref sa), some (.int (0 + (i : Int))), some (.ref pa), some (.int h), some (.ref T0), some (.ref T1), o6, o7, o8, o9, o10, some (.ref ha.p), o12, some (.int ((1 + n0 : Nat) : Int)), o14, o15, o16, o17, o18] ∧ hc.p = ha.p ∧ opsB (hb0 h ss (.long m) []) ((ops2).take ((ops2).length - i2)) = some B' ∧
            Sep [] H0 G [PailR pa (105 + 3 * (j + 1 : Nat)), StayR fun G => Tp G (.ref T0) (tbD h ss), StayR fun G => Tp G (.ref T1) (polD (.long m)) ∧ G T1 = some (.tup [.str "long", .int m]), StayR fun G => Tp G (.ref L2) (tbD h sl), HbR CD CH hc B'])
            ⟨_, _, _, _, _, _, _, _, _, _, _, hy, B2, rfl, epy, by rw [Nat.sub_zero, List.take_length]; exact hr2, sN.take 5⟩ (fun _ _ _ _ _ => trivial) ?_ ?_
          · rintro i2 x σ G0 G hi2 ⟨o6, o7, o8, o9, o10, o12, o14, o15, o16, o17, o18, hc, B', rfl, epc, hrc, sG⟩ ⟨rfl, rfl⟩
            have hlt : (ops2).length - (i2 + 1) < (ops2).length := by omega
            have etk : (ops2).take ((ops2).length - i2) = (ops2).take ((ops2).length - (i2 + 1)) ++ [(ops2)[(ops2).length - (i2 + 1)]] := by
              rw [show (ops2).length - i2 = (ops2).length - (i2 + 1) + 1 by omega, List.take_add_one, List.getElem?_eq_getElem hlt]
              rfl
            rw [etk] at hrc
            obtain ⟨Bu, e1, hrp, hh1, hh2⟩ := ops_undo hrc
            have b2 := sG.at 4 rfl
            obtain ⟨_, _, hf⟩ := HarbAt.ins b2
            refine ⟨_, rfl, hc.p, hc.dx, _, by rw [epc], hf, rfl, hc, B', (by rw [← epc]; rfl), b2, .inr ⟨Bu.hist, e1, hh1, fun da das G3 eda k3 b3 => ?_⟩⟩
            rw [hh2] at b3
            have gu := (HGrow.refl hc G).undo eda
            have s3 := sG.set 4 rfl (HbR CD CH ⟨hc.p, hc.dx, da, hc.hl, das⟩ Bu) k3 (hc.mut_all) HbR.ok b3 (fun x hx => gu.sub x hx)
            exact ⟨_, _, _, _, _, _, _, _, _, _, _, ⟨hc.p, hc.dx, da, hc.hl, das⟩, Bu, rfl, epc, hrp, s3⟩
          · rintro σ G ⟨o6, o7, o8, o9, o10, o12, o14, o15, o16, o17, o18, hc, B', rfl, epc, hrc, sG⟩
            have e1 : (ops2).take ((ops2).length - ((osN.length : Int) - 1).toNat) = [Op.adv (1 + n0)] := by
              rw [hosN, show (ops2).length - ((((ops2).length : Nat) : Int) - 1).toNat = 1 by omega, eops2]
              rfl
            rw [e1, opsB_cons, est1] at hrc
            have hrc : some B1 = some B' := hrc
            cases hrc
            refine ⟨_, rfl, (show (0:Nat) ≤ sizeLine from by decide), fun e9 oe9 he9 hd9 hc9 => ?_⟩
            have ke9 := Kp.new (S := []) he9 (o := .frz oe9 (.tup []))
            have se9 : StrF (upd G e9 (.frz oe9 (.tup []))) (.ref e9) [] := ⟨e9, oe9, [], rfl, upd_same, hd9, .nil⟩
            have sP := sG.ext ke9
            generalize upd G e9 (.frz oe9 (.tup [])) = GP at sP se9 ⊢
            refine ⟨.ref T1, .ref e9, .long m, [], rfl, (sP.at 2 rfl).1, hPO, se9, io.nd, by simp, fun l9 GQ fl9 kQ hl9 => ?_⟩
            have sQ := sP.add (LDR 2000 l9 (dk0 h ss (.long m) [])) kQ LDR.ok (hl9.tab h ss) fl9
            refine ⟨_, rfl, _, rfl, _, rfl, _, _, rfl, rfl, l9, .ref T0, dk0 h ss (.long m) [], D4, 1 + n0 + 3, 2000, rfl, by omega, sQ.at 5 rfl, g0.ok, by decide, sQ.at 1 rfl, hTV.ok, hd4, fun GR kR hl10 => ⟨_, rfl, ?_⟩⟩
            refine iteF' rfl ?_
            have hd3 : daysM 3 B1.D = some D4 := by
              have z := hd4
              rw [daysM_add, hd1] at z
              rw [hd1D]
              exact z
            obtain ⟨B4, eB4⟩ : ∃ z, z = advM B1 3 D4 := ⟨_, rfl⟩
            have sR := sQ.set 5 rfl (LDR 100000 l9 B4.D) kR (fun x hx => hx) LDR.ok (by rw [eB4]; exact LDAt.mono hl10 (by omega)) (fun x hx => .inl hx)
            refine ⟨_, rfl, hc, B1, h, .long m, 2288, 3, (by rw [epc]; rfl), sR.at 4 rfl, g1, hPO, by omega, by decide, by decide, by decide, fun D'' da GS hd' frS kS bS => ?_, fun d e t GS hlk _ _ _ => by
              have := lackD_none hlk
              rw [hd3] at this
              cases this⟩
            rw [hd3] at hd'
            cases hd'
            rw [← eB4] at bS
            have sS := sR.set 4 rfl (HbR CD CH ⟨hc.p, hc.dx, da, hc.hl, hc.das ++ [hc.da]⟩ B4) kS (hc.mut_all) HbR.ok bS (adv_all hc da frS)
            refine ⟨rfl, _, rfl, ?_⟩
            refine iteF' rfl ?_
            have est4 : stepB B1 (.adv 3) = some B4 := by
              show (daysM 3 B1.D).map (advM B1 3) = _
              rw [hd3, eB4]
              rfl
            have g4 : GoodB h (.long m) 2576 B4 := g1.step (M := 12) (o := .adv 3) ⟨by omega, by omega⟩ est4
            have hr4 : opsB (hb0 h ss (.long m) []) [.adv (1 + n0), .adv 3] = some B4 := by
              rw [opsB_cons, est1]
              show opsB B1 [.adv 3] = _
              rw [opsB_cons, est4]
              rfl
            obtain ⟨ehZ, _, _⟩ := ops_hist (B0 := hb0 h ss (.long m) []) rfl hr4
            refine ⟨_, rfl, _, rfl, _, rfl, h2s, fun v1 hv1 => ⟨h2s, fun v2 hv2 => ⟨h2s, fun vl hvl => ?_⟩⟩⟩
            generalize hGT : upd (upd (upd GS v1 _) v2 _) vl _ = GT
            obtain ⟨_, kT, eT, tT⟩ := two_ops (d1 := .int ((1 + n0 : Nat) : Int)) (d2 := .int ((3 : Nat) : Int)) (.int _) (.int _) hv1 hv2 hvl hGT.symm
            have sT := sS.ext kT
            have hz4 : ∀ z, Op.rep z ∈ [Op.adv (1 + n0), Op.adv 3] → z.length ≤ 24 := fun z hz => by simp at hz
            refine ⟨⟨hc.p, hc.dx, da, hc.hl, hc.das ++ [hc.da]⟩, l9, vl, B4, _, 100000, _, (by show _ = [V.ref hc.p, _, _]; rw [epc]; rfl), sT.at 4 rfl, sT.at 5 rfl, g4.day, g4.ok.mono (by decide), by decide, eT, by rw [ehZ]; exact tT, by rw [ehZ]; exact opsOk_D h _ hz4 (show (2:Nat) ≤ 100000 by decide), fun GU kU => ⟨_, rfl, ?_⟩⟩
            refine iteF' rfl ?_
            exact ⟨_, _, _, _, _, _, _, _, _, _, _, _, _, rfl, (sT.ext kU).take 3⟩
      · rintro σ G ⟨o6, o7, o8, o9, o10, o11, o12, o13, o14, o15, o16, o17, o18, rfl, sG⟩
        exact ⟨_, _, _, _, _, _, _, _, _, _, _, _, _, _, _, _, _, _, rfl, k0.trans sG.k⟩
    · rintro σ G ⟨o1, o2, o3, o4, o5, o6, o7, o8, o9, o10, o11, o12, o13, o14, o15, o16, o17, o18, rfl, k0⟩
      exact q G
end
end Ba

set_option maxHeartbeats 400000
namespace Ba
open PySem PySem.Spec PyProof.Rows L2
theorem startB_ok {K : PySem.W.Frag} (h : startB K = true) : StartC K (startAd K) := by
  unfold startB at h
  split at h
  · rename_i T od its n sl e
    obtain ⟨h1, h2⟩ := He.ba h
    have h1 : T = "tuple" := of_decide_eq_true h1
    subst h1
    have h2 : its = #[] := by simpa using h2
    subst h2
    exact ⟨fun H => ⟨startAd K, [], rfl, .inr ⟨_, #[], n, e, rfl, rfl, by decide, .nil⟩, .nil⟩⟩
  · cases h
end Ba

set_option maxHeartbeats 400000
namespace Ba
open PySem PySem.Spec PyProof.Rows L2
theorem oexK_ok {K : PySem.W.Frag} {C : Addr} (e : oexK K C = true) : ∃ nm q N bs bm sn sub ab col dd k0 k1 k2 k3 k5, K.lookup C = some (excClassObj nm q C N bs bm true sn sub ab col dd k0 k1 k2 k3 k5 "ValueError.__new__") ∧ PySem.HandSPX.refsVE bm = true := by
  unfold oexK at e
  split at e
  · rename_i dd cd sl ho
    split at e
    · rename_i C2 bm a0 a1 a2 a3 n a5 hm hs
      obtain ⟨e1, e⟩ := He.ba e
      obtain ⟨e2, e⟩ := He.ba e
      obtain ⟨e3, e⟩ := He.ba e
      obtain ⟨e4, e5⟩ := He.ba e
      have e1 : C2 = C := by simpa using e1
      have e2 : n = "ValueError.__new__" := by simpa using e2
      subst e1 e2
      obtain ⟨nm, bs, mro, ns, qn, hd, sn, sub, ab, col, del⟩ := cd
      dsimp only at hm e3 e4 e5
      obtain rfl : del = false := by simpa using e3
      subst hm e4
      have hsl : sl = #[a0, a1, a2, a3, some (.builtin "ValueError.__new__"), a5] := by
        obtain ⟨l⟩ := sl
        simp only at hs
        rw [hs]
      subst hsl
      exact ⟨nm, qn, ns, bs, bm, sn, sub, ab, col, dd, a0, a1, a2, a3, a5, ho, e5⟩
    · cases e
  · cases e
/-- NoRoom, in the head -/
structure RoomX (K : PySem.W.Frag) (C f : Addr) : Prop where
  o : OexC K C
  d : PySem.W.findIn K (.ref C) "on_day" = some none
  s : PySem.W.findIn K (.ref C) "ship" = some none
  i : PySem.W.findIn K (.ref C) "__init__" = some (some (.ref f))
  t : PySem.W.typeIn K (.ref f) = some (.type "function")
  m : PySem.W.exmOne K (.ref C) (.ref C) = some true
  x : XfC K C
theorem roomB_ok {K : PySem.W.Frag} (h : roomB K = true) : RoomX K (He.ga K "NoRoom") (He.fAd K ("NoRoom", some "__init__")) := by
  unfold roomB roomK at h
  obtain ⟨h1, h⟩ := He.ba h
  obtain ⟨h2, h⟩ := He.ba h
  obtain ⟨h3, h⟩ := He.ba h
  obtain ⟨h4, h⟩ := He.ba h
  obtain ⟨h5, h⟩ := He.ba h
  obtain ⟨h6, h⟩ := He.ba h
  obtain ⟨h7, h⟩ := He.ba h
  obtain ⟨h8, h⟩ := He.ba h
  obtain ⟨h9, h⟩ := He.ba h
  obtain ⟨h10, h11⟩ := He.ba h
  exact ⟨⟨oexK_ok h1, He.eqO_ok h2, of_decide_eq_true h3, of_decide_eq_true h4, h5⟩, He.eqO_ok h6, He.eqO_ok h7, He.eqO_ok h8, of_decide_eq_true h9, of_decide_eq_true h10, xfB_ok h11⟩
/-- a class that a clause names, in the head -/
def exmB (x : Str) (K : PySem.W.Frag) : Bool := decide (PySem.W.exmOne K (.ref (He.ga K x)) (.ref (He.ga K x)) = some true)
theorem exmB_ok {x : Str} {K : PySem.W.Frag} (h : exmB x K = true) : PySem.W.exmOne K (.ref (He.ga K x)) (.ref (He.ga K x)) = some true := of_decide_eq_true h
end Ba

set_option maxHeartbeats 400000
namespace Ba
open PySem PySem.Spec PyProof.Rows L2
theorem excCB_ok {K : PySem.W.Frag} {D : Addr} (h : excCB K D = true) : ExcC K D := by
  obtain ⟨h1, h⟩ := He.ba h
  obtain ⟨h2, h⟩ := He.ba h
  obtain ⟨h3, h⟩ := He.ba h
  obtain ⟨h4, h⟩ := He.ba h
  obtain ⟨h5, h⟩ := He.ba h
  obtain ⟨h6, h⟩ := He.ba h
  obtain ⟨h7, h8⟩ := He.ba h
  exact ⟨He.eqO_ok h1, He.eqO_ok h2, of_decide_eq_true h3, h4, He.eqO_ok h5, He.eqO_ok h6, of_decide_eq_true h7, of_decide_eq_true h8⟩
theorem kindAll_ok {K : PySem.W.Frag} {D : Addr} {i : Nat} : ∀ (l : List Str) (n : Nat), kindAll K D i n l = true → ∀ (j : Nat) (x : Str), l[j]? = some x → PySem.W.kitOne K (.ref D) (.ref (He.ga K x)) = some (decide (n + j = i))
  | [], _, _, j, x, e => by simp at e
  | y :: r, n, h, 0, x, e => by
    obtain ⟨h1, _⟩ := He.ba h
    have e : y = x := by simpa using e
    subst e
    exact of_decide_eq_true h1
  | y :: r, n, h, j + 1, x, e => by
    obtain ⟨_, h2⟩ := He.ba h
    have z := kindAll_ok r (n + 1) h2 j x (by simpa using e)
    rw [show n + (j + 1) = n + 1 + j by omega]
    exact z
/-- the class x is the i-th of the package's exceptions, and is caught by BerthError's clause -/
structure KindX (K : PySem.W.Frag) (D : Addr) (i : Nat) (CB : Addr) : Prop where
  c : KindC K (He.ga K) D i
  m : PySem.W.exmOne K (.ref D) (.ref CB) = some true
theorem kindB_ok {x : Str} {i : Nat} {K : PySem.W.Frag} (h : kindB x i K = true) : KindX K (He.ga K x) i (He.ga K "BerthError") := by
  obtain ⟨h1, h⟩ := He.ba h
  obtain ⟨h2, h⟩ := He.ba h
  obtain ⟨h3, h4⟩ := He.ba h
  refine ⟨⟨excCB_ok h1, fun j y e => ?_, of_decide_eq_true h3⟩, of_decide_eq_true h4⟩
  have z := kindAll_ok kindN 0 h2 j y e
  rw [Nat.zero_add] at z
  exact z
end Ba

set_option maxHeartbeats 0
namespace Ba
open PySem PySem.Spec PyProof.Rows L2
/-- the walk of the law, raises told by L2N.CX -/
theorem walk_w {l : PySem.W.OpenLaw} {n k : Nat} {q : Program} {loose : List Str} {XP : (Str → Option Value) → Heap → Prop} {YP : World → Heap → Prop} {d : DefRec} {x : Str}
    (hn : l.most = some n) (hn2 : n ≤ sizeLine) (hdf : d.params.defaults = []) (hr : L2.Room k callerA)
    (F : ∀ (w : World) (mg : Str → Option Value) (fa : Addr) (h : Heap), YP w h → h.Ns mainGlobals mg → mg d.name = some (.ref fa) →
      ∃ (K : PySem.W.Frag) (fd : FuncData) (sp : Sp), K.In h ∧ (∀ (s : Shared) (u : Value), BindsTo s fd ⟨[u], []⟩ [(x, u)]) ∧
        (∀ (H : Hp) (a : Addr) (ns : List Int), ns.length ≤ n → Only H → SqL K H a (ns.map V.int) → sp [.ref a] H (fun v _ => v = .bl true) fun _ _ _ => False) ∧
        ∀ base : Heap, K.In base → base.Ns mainGlobals mg → FnOk l.prog w K mg base (L2N.CX l.prog w) k fa fd [x] sp) :
    PySem.W.WalkO q loose XP YP l.row.toRowW d [] (fun f vs => PySem.call f vs) := by
  refine Att.attach_call hn hdf fun w s₀ s₁ mg mb fa o pm cd doc a vs ns G Y ho hd hcd hmg hobj hints hlen hg => ?_
  obtain ⟨K, fd, sp, KX, hb, hsp, hF⟩ := F w mg fa _ Y G.T.g hmg
  exact law_call KX G.T.g G.T.b G.T.builtins G.T.nolimit hg hobj hints (Nat.le_trans hlen hn2) hr hF hb (fun H hO hS => hsp H a ns hlen hO hS) fun H e s' z => by
    obtain ⟨_, _, _, _, _, _, _, _, _, _, _, _, z⟩ := z
    exact z
theorem law_facts {P : Program} {w : World} {K : PySem.W.Frag} {h : Heap} {mg : Str → Option Value} {f : Addr} (X : K.In h) (G : h.Ns mainGlobals mg) (hfa : mg ("law" : Str) = some (.ref f)) (cX : SaysX fa fn exB K) :
    ∃ fd : FuncData, (∀ (s : Shared) (v : Value), BindsTo s fd ⟨[v], []⟩ [("_law_script", v)]) ∧ ∀ base : Heap, K.In base → base.Ns mainGlobals mg → FnOk P w K mg base (L2N.CX P w) 10 f fd p_law (spLaw K) := by
  have c := cX.d
  have cE := cX.e
  obtain ⟨S_start, cE⟩ := He.ba cE
  have S_start : StartC K (startAd K) := startB_ok S_start
  obtain ⟨X_NoRoom, cE⟩ := He.ba cE
  have X_NoRoom : RoomX K (He.ga K "NoRoom") (He.fAd K ("NoRoom", some "__init__")) := roomB_ok X_NoRoom
  obtain ⟨K_NoRoom, cE⟩ := He.ba cE
  have K_NoRoom : KindX K (He.ga K "NoRoom") 12 (He.ga K "BerthError") := kindB_ok K_NoRoom
  obtain ⟨KB_NoRoom, cE⟩ := He.ba cE
  have KB_NoRoom : PySem.W.kitOne K (.ref (He.ga K "NoRoom")) (.ref (He.ga K "BerthError")) = some true := of_decide_eq_true KB_NoRoom
  obtain ⟨fd_NoRoom_init, F_NoRoom_init⟩ := c.def_ 0 (d := d_NoRoom_init) rfl
  obtain ⟨fd_is_int, F_is_int⟩ := c.def_ 1 (d := d_is_int) rfl
  obtain ⟨fd_in_range, F_in_range⟩ := c.def_ 2 (d := d_in_range) rfl
  obtain ⟨fd_is_ship, F_is_ship⟩ := c.def_ 3 (d := d_is_ship) rfl
  obtain ⟨fd_day_events, F_day_events⟩ := c.def_ 4 (d := d_day_events) rfl
  obtain ⟨fd_count_at_midnight, F_count_at_midnight⟩ := c.def_ 5 (d := d_count_at_midnight) rfl
  obtain ⟨fd_counts, F_counts⟩ := c.def_ 6 (d := d_counts) rfl
  obtain ⟨fd_peak_of, F_peak_of⟩ := c.def_ 7 (d := d_peak_of) rfl
  obtain ⟨fd_is_table, F_is_table⟩ := c.def_ 8 (d := d_is_table) rfl
  obtain ⟨fd_require_table, F_require_table⟩ := c.def_ 9 (d := d_require_table) rfl
  obtain ⟨fd_valid_policy, F_valid_policy⟩ := c.def_ 10 (d := d_valid_policy) rfl
  obtain ⟨fd_require_policy, F_require_policy⟩ := c.def_ 11 (d := d_require_policy) rfl
  obtain ⟨fd_is_stranger, F_is_stranger⟩ := c.def_ 12 (d := d_is_stranger) rfl
  obtain ⟨fd_valid_start, F_valid_start⟩ := c.def_ 13 (d := d_valid_start) rfl
  obtain ⟨fd_require_start, F_require_start⟩ := c.def_ 14 (d := d_require_start) rfl
  obtain ⟨fd_require_days, F_require_days⟩ := c.def_ 15 (d := d_require_days) rfl
  obtain ⟨fd_Dock_init, F_Dock_init⟩ := c.def_ 16 (d := d_Dock_init) rfl
  obtain ⟨fd_Dock_copy, F_Dock_copy⟩ := c.def_ 17 (d := d_Dock_copy) rfl
  obtain ⟨fd_Dock_leave_until, F_Dock_leave_until⟩ := c.def_ 18 (d := d_Dock_leave_until) rfl
  obtain ⟨fd_Dock_least_unused, F_Dock_least_unused⟩ := c.def_ 19 (d := d_Dock_least_unused) rfl
  obtain ⟨fd_Dock_choose, F_Dock_choose⟩ := c.def_ 20 (d := d_Dock_choose) rfl
  obtain ⟨fd_Dock_enter, F_Dock_enter⟩ := c.def_ 21 (d := d_Dock_enter) rfl
  obtain ⟨fd_Dock_end_day, F_Dock_end_day⟩ := c.def_ 22 (d := d_Dock_end_day) rfl
  obtain ⟨fd_Dock_next_day, F_Dock_next_day⟩ := c.def_ 23 (d := d_Dock_next_day) rfl
  obtain ⟨fd_Dock_switch, F_Dock_switch⟩ := c.def_ 24 (d := d_Dock_switch) rfl
  obtain ⟨fd_Dock_leaving_order, F_Dock_leaving_order⟩ := c.def_ 25 (d := d_Dock_leaving_order) rfl
  obtain ⟨fd_Dock_free_order, F_Dock_free_order⟩ := c.def_ 26 (d := d_Dock_free_order) rfl
  obtain ⟨fd_Dock_state, F_Dock_state⟩ := c.def_ 27 (d := d_Dock_state) rfl
  obtain ⟨fd_arrival_order, F_arrival_order⟩ := c.def_ 28 (d := d_arrival_order) rfl
  obtain ⟨fd_Harbour_init, F_Harbour_init⟩ := c.def_ 29 (d := d_Harbour_init) rfl
  obtain ⟨fd_Harbour_len, F_Harbour_len⟩ := c.def_ 30 (d := d_Harbour_len) rfl
  obtain ⟨fd_Harbour_eq, F_Harbour_eq⟩ := c.def_ 31 (d := d_Harbour_eq) rfl
  obtain ⟨fd_Harbour_snapshot, F_Harbour_snapshot⟩ := c.def_ 32 (d := d_Harbour_snapshot) rfl
  obtain ⟨fd_Harbour_commit, F_Harbour_commit⟩ := c.def_ 33 (d := d_Harbour_commit) rfl
  obtain ⟨fd_Harbour_advance, F_Harbour_advance⟩ := c.def_ 34 (d := d_Harbour_advance) rfl
  obtain ⟨fd_Harbour_replace, F_Harbour_replace⟩ := c.def_ 35 (d := d_Harbour_replace) rfl
  obtain ⟨fd_Harbour_undo, F_Harbour_undo⟩ := c.def_ 36 (d := d_Harbour_undo) rfl
  obtain ⟨fd_Harbour_day, F_Harbour_day⟩ := c.def_ 37 (d := d_Harbour_day) rfl
  obtain ⟨fd_Harbour_occupied, F_Harbour_occupied⟩ := c.def_ 38 (d := d_Harbour_occupied) rfl
  obtain ⟨fd_Harbour_log, F_Harbour_log⟩ := c.def_ 39 (d := d_Harbour_log) rfl
  obtain ⟨fd__law_pail, F__law_pail⟩ := c.def_ 40 (d := d__law_pail) rfl
  obtain ⟨fd__law_dip, F__law_dip⟩ := c.def_ 41 (d := d__law_dip) rfl
  obtain ⟨fd__law_hours, F__law_hours⟩ := c.def_ 42 (d := d__law_hours) rfl
  obtain ⟨fd__law_table, F__law_table⟩ := c.def_ 43 (d := d__law_table) rfl
  obtain ⟨fd__law_peak, F__law_peak⟩ := c.def_ 44 (d := d__law_peak) rfl
  obtain ⟨fd__law_policy, F__law_policy⟩ := c.def_ 45 (d := d__law_policy) rfl
  obtain ⟨fd__law_start, F__law_start⟩ := c.def_ 46 (d := d__law_start) rfl
  obtain ⟨fd__law_dock, F__law_dock⟩ := c.def_ 47 (d := d__law_dock) rfl
  obtain ⟨fd__law_copied, F__law_copied⟩ := c.def_ 48 (d := d__law_copied) rfl
  obtain ⟨fd__law_leave, F__law_leave⟩ := c.def_ 49 (d := d__law_leave) rfl
  obtain ⟨fd__law_least_not_in, F__law_least_not_in⟩ := c.def_ 50 (d := d__law_least_not_in) rfl
  obtain ⟨fd__law_choice, F__law_choice⟩ := c.def_ 51 (d := d__law_choice) rfl
  obtain ⟨fd__law_day, F__law_day⟩ := c.def_ 52 (d := d__law_day) rfl
  obtain ⟨fd__law_days, F__law_days⟩ := c.def_ 53 (d := d__law_days) rfl
  obtain ⟨fd__law_same, F__law_same⟩ := c.def_ 54 (d := d__law_same) rfl
  obtain ⟨fd__law_right, F__law_right⟩ := c.def_ 55 (d := d__law_right) rfl
  obtain ⟨fd__law_kind, F__law_kind⟩ := c.def_ 56 (d := d__law_kind) rfl
  obtain ⟨fd__law_advanced, F__law_advanced⟩ := c.def_ 57 (d := d__law_advanced) rfl
  obtain ⟨fd__law_first_without, F__law_first_without⟩ := c.def_ 58 (d := d__law_first_without) rfl
  obtain ⟨fd_law, F_law⟩ := c.def_ 59 (d := d_law) rfl
  have g_is_int := He.glo_ok X G (c.fact 0 (f := .glo "is_int") rfl)
  have g_in_range := He.glo_ok X G (c.fact 1 (f := .glo "in_range") rfl)
  have g_is_ship := He.glo_ok X G (c.fact 2 (f := .glo "is_ship") rfl)
  have g_day_events := He.glo_ok X G (c.fact 3 (f := .glo "day_events") rfl)
  have g_count_at_midnight := He.glo_ok X G (c.fact 4 (f := .glo "count_at_midnight") rfl)
  have g_counts := He.glo_ok X G (c.fact 5 (f := .glo "counts") rfl)
  have g_peak_of := He.glo_ok X G (c.fact 6 (f := .glo "peak_of") rfl)
  have g_is_table := He.glo_ok X G (c.fact 7 (f := .glo "is_table") rfl)
  have g_require_table := He.glo_ok X G (c.fact 8 (f := .glo "require_table") rfl)
  have g_valid_policy := He.glo_ok X G (c.fact 9 (f := .glo "valid_policy") rfl)
  have g_require_policy := He.glo_ok X G (c.fact 10 (f := .glo "require_policy") rfl)
  have g_is_stranger := He.glo_ok X G (c.fact 11 (f := .glo "is_stranger") rfl)
  have g_valid_start := He.glo_ok X G (c.fact 12 (f := .glo "valid_start") rfl)
  have g_require_start := He.glo_ok X G (c.fact 13 (f := .glo "require_start") rfl)
  have g_require_days := He.glo_ok X G (c.fact 14 (f := .glo "require_days") rfl)
  have g_arrival_order := He.glo_ok X G (c.fact 15 (f := .glo "arrival_order") rfl)
  have g__law_pail := He.glo_ok X G (c.fact 16 (f := .glo "_law_pail") rfl)
  have g__law_dip := He.glo_ok X G (c.fact 17 (f := .glo "_law_dip") rfl)
  have g__law_hours := He.glo_ok X G (c.fact 18 (f := .glo "_law_hours") rfl)
  have g__law_table := He.glo_ok X G (c.fact 19 (f := .glo "_law_table") rfl)
  have g__law_peak := He.glo_ok X G (c.fact 20 (f := .glo "_law_peak") rfl)
  have g__law_policy := He.glo_ok X G (c.fact 21 (f := .glo "_law_policy") rfl)
  have g__law_start := He.glo_ok X G (c.fact 22 (f := .glo "_law_start") rfl)
  have g__law_dock := He.glo_ok X G (c.fact 23 (f := .glo "_law_dock") rfl)
  have g__law_copied := He.glo_ok X G (c.fact 24 (f := .glo "_law_copied") rfl)
  have g__law_leave := He.glo_ok X G (c.fact 25 (f := .glo "_law_leave") rfl)
  have g__law_least_not_in := He.glo_ok X G (c.fact 26 (f := .glo "_law_least_not_in") rfl)
  have g__law_choice := He.glo_ok X G (c.fact 27 (f := .glo "_law_choice") rfl)
  have g__law_day := He.glo_ok X G (c.fact 28 (f := .glo "_law_day") rfl)
  have g__law_days := He.glo_ok X G (c.fact 29 (f := .glo "_law_days") rfl)
  have g__law_same := He.glo_ok X G (c.fact 30 (f := .glo "_law_same") rfl)
  have g__law_right := He.glo_ok X G (c.fact 31 (f := .glo "_law_right") rfl)
  have g__law_kind := He.glo_ok X G (c.fact 32 (f := .glo "_law_kind") rfl)
  have g__law_advanced := He.glo_ok X G (c.fact 33 (f := .glo "_law_advanced") rfl)
  have g__law_first_without := He.glo_ok X G (c.fact 34 (f := .glo "_law_first_without") rfl)
  have g_law := He.glo_ok X G (c.fact 35 (f := .glo "law") rfl)
  have g_Dock := He.glo_ok X G (c.fact 36 (f := .glo "Dock") rfl)
  have g_Harbour := He.glo_ok X G (c.fact 37 (f := .glo "Harbour") rfl)
  have g_BerthError := He.glo_ok X G (c.fact 38 (f := .glo "BerthError") rfl)
  have g_NoTable := He.glo_ok X G (c.fact 39 (f := .glo "NoTable") rfl)
  have g_NoHour := He.glo_ok X G (c.fact 40 (f := .glo "NoHour") rfl)
  have g_NoPolicy := He.glo_ok X G (c.fact 41 (f := .glo "NoPolicy") rfl)
  have g_NoStart := He.glo_ok X G (c.fact 42 (f := .glo "NoStart") rfl)
  have g_NoDays := He.glo_ok X G (c.fact 43 (f := .glo "NoDays") rfl)
  have g_NoShip := He.glo_ok X G (c.fact 44 (f := .glo "NoShip") rfl)
  have g_NoBerth := He.glo_ok X G (c.fact 45 (f := .glo "NoBerth") rfl)
  have g_NoMap := He.glo_ok X G (c.fact 46 (f := .glo "NoMap") rfl)
  have g_NoPlan := He.glo_ok X G (c.fact 47 (f := .glo "NoPlan") rfl)
  have g_NoNumber := He.glo_ok X G (c.fact 48 (f := .glo "NoNumber") rfl)
  have g_NoExchange := He.glo_ok X G (c.fact 49 (f := .glo "NoExchange") rfl)
  have g_NoChanges := He.glo_ok X G (c.fact 50 (f := .glo "NoChanges") rfl)
  have g_Nothing := He.glo_ok X G (c.fact 51 (f := .glo "Nothing") rfl)
  have g_NoText := He.glo_ok X G (c.fact 52 (f := .glo "NoText") rfl)
  have g_NoRow := He.glo_ok X G (c.fact 53 (f := .glo "NoRow") rfl)
  have g_NoRoom := He.glo_ok X G (c.fact 54 (f := .glo "NoRoom") rfl)
  have g_TooLong := He.glo_ok X G (c.fact 55 (f := .glo "TooLong") rfl)
  have B : Bi mg := ⟨He.free_ok X G (c.fact 56 (f := .free "isinstance") rfl), He.free_ok X G (c.fact 57 (f := .free "len") rfl), He.free_ok X G (c.fact 58 (f := .free "max") rfl), He.free_ok X G (c.fact 59 (f := .free "min") rfl), He.free_ok X G (c.fact 60 (f := .free "sorted") rfl), He.free_ok X G (c.fact 61 (f := .free "all") rfl), He.free_ok X G (c.fact 62 (f := .free "divmod") rfl), He.free_ok X G (c.fact 63 (f := .free "sum") rfl), He.free_ok X G (c.fact 64 (f := .free "int") rfl), He.free_ok X G (c.fact 65 (f := .free "bool") rfl), He.free_ok X G (c.fact 66 (f := .free "tuple") rfl), He.free_ok X G (c.fact 67 (f := .free "str") rfl), He.free_ok X G (c.fact 68 (f := .free "list") rfl), He.free_ok X G (c.fact 69 (f := .free "dict") rfl), He.free_ok X G (c.fact 70 (f := .free "range") rfl), He.free_ok X G (c.fact 71 (f := .free "enumerate") rfl), He.free_ok X G (c.fact 72 (f := .free "zip") rfl), He.free_ok X G (c.fact 73 (f := .free "repr") rfl)⟩
  have T : TTab mg := ⟨He.int_ok X G (c.fact 75 (f := .int "MOST_HOURS" 1000) rfl), He.int_ok X G (c.fact 76 (f := .int "MOST_SHIPS" 24) rfl), He.int_ok X G (c.fact 77 (f := .int "MOST_STAY" 10000) rfl), He.int_ok X G (c.fact 78 (f := .int "MOST_PEAK" 60) rfl), He.int_ok X G (c.fact 79 (f := .int "DEPARTURE" 0) rfl), He.int_ok X G (c.fact 80 (f := .int "ARRIVAL" 1) rfl)⟩
  have Rr : RRun mg := ⟨He.int_ok X G (c.fact 81 (f := .int "MOST_BERTH" 200) rfl), He.str_ok X G (c.fact 83 (f := .str "LEAST" "least") rfl), He.str_ok X G (c.fact 84 (f := .str "LAST" "last") rfl), He.str_ok X G (c.fact 85 (f := .str "LONG" "long") rfl)⟩
  have RH : HRun mg := ⟨He.int_ok X G (c.fact 82 (f := .int "MAX_ADVANCE" 200) rfl)⟩
  have E_NoTable : ExcOk K mg "NoTable" (He.ga K "NoTable") := ⟨(He.exc_ok (c.fact 123 (f := .exc "NoTable") rfl)).1, g_NoTable, (He.exc_ok (c.fact 123 (f := .exc "NoTable") rfl)).2.1, (He.exc_ok (c.fact 123 (f := .exc "NoTable") rfl)).2.2.1, (He.exc_ok (c.fact 123 (f := .exc "NoTable") rfl)).2.2.2⟩
  have E_NoHour : ExcOk K mg "NoHour" (He.ga K "NoHour") := ⟨(He.exc_ok (c.fact 124 (f := .exc "NoHour") rfl)).1, g_NoHour, (He.exc_ok (c.fact 124 (f := .exc "NoHour") rfl)).2.1, (He.exc_ok (c.fact 124 (f := .exc "NoHour") rfl)).2.2.1, (He.exc_ok (c.fact 124 (f := .exc "NoHour") rfl)).2.2.2⟩
  have E_NoPolicy : ExcOk K mg "NoPolicy" (He.ga K "NoPolicy") := ⟨(He.exc_ok (c.fact 125 (f := .exc "NoPolicy") rfl)).1, g_NoPolicy, (He.exc_ok (c.fact 125 (f := .exc "NoPolicy") rfl)).2.1, (He.exc_ok (c.fact 125 (f := .exc "NoPolicy") rfl)).2.2.1, (He.exc_ok (c.fact 125 (f := .exc "NoPolicy") rfl)).2.2.2⟩
  have E_NoStart : ExcOk K mg "NoStart" (He.ga K "NoStart") := ⟨(He.exc_ok (c.fact 126 (f := .exc "NoStart") rfl)).1, g_NoStart, (He.exc_ok (c.fact 126 (f := .exc "NoStart") rfl)).2.1, (He.exc_ok (c.fact 126 (f := .exc "NoStart") rfl)).2.2.1, (He.exc_ok (c.fact 126 (f := .exc "NoStart") rfl)).2.2.2⟩
  have E_NoDays : ExcOk K mg "NoDays" (He.ga K "NoDays") := ⟨(He.exc_ok (c.fact 127 (f := .exc "NoDays") rfl)).1, g_NoDays, (He.exc_ok (c.fact 127 (f := .exc "NoDays") rfl)).2.1, (He.exc_ok (c.fact 127 (f := .exc "NoDays") rfl)).2.2.1, (He.exc_ok (c.fact 127 (f := .exc "NoDays") rfl)).2.2.2⟩
  have E_NoShip : ExcOk K mg "NoShip" (He.ga K "NoShip") := ⟨(He.exc_ok (c.fact 128 (f := .exc "NoShip") rfl)).1, g_NoShip, (He.exc_ok (c.fact 128 (f := .exc "NoShip") rfl)).2.1, (He.exc_ok (c.fact 128 (f := .exc "NoShip") rfl)).2.2.1, (He.exc_ok (c.fact 128 (f := .exc "NoShip") rfl)).2.2.2⟩
  have E_NoBerth : ExcOk K mg "NoBerth" (He.ga K "NoBerth") := ⟨(He.exc_ok (c.fact 129 (f := .exc "NoBerth") rfl)).1, g_NoBerth, (He.exc_ok (c.fact 129 (f := .exc "NoBerth") rfl)).2.1, (He.exc_ok (c.fact 129 (f := .exc "NoBerth") rfl)).2.2.1, (He.exc_ok (c.fact 129 (f := .exc "NoBerth") rfl)).2.2.2⟩
  have E_NoMap : ExcOk K mg "NoMap" (He.ga K "NoMap") := ⟨(He.exc_ok (c.fact 130 (f := .exc "NoMap") rfl)).1, g_NoMap, (He.exc_ok (c.fact 130 (f := .exc "NoMap") rfl)).2.1, (He.exc_ok (c.fact 130 (f := .exc "NoMap") rfl)).2.2.1, (He.exc_ok (c.fact 130 (f := .exc "NoMap") rfl)).2.2.2⟩
  have E_NoPlan : ExcOk K mg "NoPlan" (He.ga K "NoPlan") := ⟨(He.exc_ok (c.fact 131 (f := .exc "NoPlan") rfl)).1, g_NoPlan, (He.exc_ok (c.fact 131 (f := .exc "NoPlan") rfl)).2.1, (He.exc_ok (c.fact 131 (f := .exc "NoPlan") rfl)).2.2.1, (He.exc_ok (c.fact 131 (f := .exc "NoPlan") rfl)).2.2.2⟩
  have E_NoNumber : ExcOk K mg "NoNumber" (He.ga K "NoNumber") := ⟨(He.exc_ok (c.fact 132 (f := .exc "NoNumber") rfl)).1, g_NoNumber, (He.exc_ok (c.fact 132 (f := .exc "NoNumber") rfl)).2.1, (He.exc_ok (c.fact 132 (f := .exc "NoNumber") rfl)).2.2.1, (He.exc_ok (c.fact 132 (f := .exc "NoNumber") rfl)).2.2.2⟩
  have E_NoExchange : ExcOk K mg "NoExchange" (He.ga K "NoExchange") := ⟨(He.exc_ok (c.fact 133 (f := .exc "NoExchange") rfl)).1, g_NoExchange, (He.exc_ok (c.fact 133 (f := .exc "NoExchange") rfl)).2.1, (He.exc_ok (c.fact 133 (f := .exc "NoExchange") rfl)).2.2.1, (He.exc_ok (c.fact 133 (f := .exc "NoExchange") rfl)).2.2.2⟩
  have E_NoChanges : ExcOk K mg "NoChanges" (He.ga K "NoChanges") := ⟨(He.exc_ok (c.fact 134 (f := .exc "NoChanges") rfl)).1, g_NoChanges, (He.exc_ok (c.fact 134 (f := .exc "NoChanges") rfl)).2.1, (He.exc_ok (c.fact 134 (f := .exc "NoChanges") rfl)).2.2.1, (He.exc_ok (c.fact 134 (f := .exc "NoChanges") rfl)).2.2.2⟩
  have E_Nothing : ExcOk K mg "Nothing" (He.ga K "Nothing") := ⟨(He.exc_ok (c.fact 135 (f := .exc "Nothing") rfl)).1, g_Nothing, (He.exc_ok (c.fact 135 (f := .exc "Nothing") rfl)).2.1, (He.exc_ok (c.fact 135 (f := .exc "Nothing") rfl)).2.2.1, (He.exc_ok (c.fact 135 (f := .exc "Nothing") rfl)).2.2.2⟩
  have E_NoText : ExcOk K mg "NoText" (He.ga K "NoText") := ⟨(He.exc_ok (c.fact 136 (f := .exc "NoText") rfl)).1, g_NoText, (He.exc_ok (c.fact 136 (f := .exc "NoText") rfl)).2.1, (He.exc_ok (c.fact 136 (f := .exc "NoText") rfl)).2.2.1, (He.exc_ok (c.fact 136 (f := .exc "NoText") rfl)).2.2.2⟩
  have E_NoRow : ExcOk K mg "NoRow" (He.ga K "NoRow") := ⟨(He.exc_ok (c.fact 137 (f := .exc "NoRow") rfl)).1, g_NoRow, (He.exc_ok (c.fact 137 (f := .exc "NoRow") rfl)).2.1, (He.exc_ok (c.fact 137 (f := .exc "NoRow") rfl)).2.2.1, (He.exc_ok (c.fact 137 (f := .exc "NoRow") rfl)).2.2.2⟩
  have KG : KindG mg (He.ga K) := ⟨fun x hx => by
    unfold kindN at hx
    rcases List.mem_cons.mp hx with rfl | hx
    · exact g_NoTable
    rcases List.mem_cons.mp hx with rfl | hx
    · exact g_NoHour
    rcases List.mem_cons.mp hx with rfl | hx
    · exact g_NoPolicy
    rcases List.mem_cons.mp hx with rfl | hx
    · exact g_NoStart
    rcases List.mem_cons.mp hx with rfl | hx
    · exact g_NoDays
    rcases List.mem_cons.mp hx with rfl | hx
    · exact g_NoShip
    rcases List.mem_cons.mp hx with rfl | hx
    · exact g_NoBerth
    rcases List.mem_cons.mp hx with rfl | hx
    · exact g_NoMap
    rcases List.mem_cons.mp hx with rfl | hx
    · exact g_NoPlan
    rcases List.mem_cons.mp hx with rfl | hx
    · exact g_NoNumber
    rcases List.mem_cons.mp hx with rfl | hx
    · exact g_NoExchange
    rcases List.mem_cons.mp hx with rfl | hx
    · exact g_NoChanges
    rcases List.mem_cons.mp hx with rfl | hx
    · exact g_NoRoom
    rcases List.mem_cons.mp hx with rfl | hx
    · exact g_TooLong
    rcases List.mem_cons.mp hx with rfl | hx
    · exact g_Nothing
    rcases List.mem_cons.mp hx with rfl | hx
    · exact g_NoText
    rcases List.mem_cons.mp hx with rfl | hx
    · exact g_NoRow
    exact absurd hx (by simp), He.free_ok X G (c.fact 74 (f := .free "ValueError") rfl)⟩
  have cl_Dock : Cls K (He.ga K "Dock") := He.cls_ok (c.fact 86 (f := .cls "Dock") rfl)
  have C_Dock : DockC K (He.ga K "Dock") := ⟨cl_Dock, He.noat_ok (c.fact 87 (f := .noat "Dock" "table") rfl), He.noat_ok (c.fact 88 (f := .noat "Dock" "policy") rfl), He.noat_ok (c.fact 89 (f := .noat "Dock" "today") rfl), He.noat_ok (c.fact 90 (f := .noat "Dock" "stays") rfl), He.noat_ok (c.fact 91 (f := .noat "Dock" "vacated") rfl), He.noat_ok (c.fact 92 (f := .noat "Dock" "used") rfl)⟩
  have cl_Harbour : Cls K (He.ga K "Harbour") := He.cls_ok (c.fact 105 (f := .cls "Harbour") rfl)
  have C_Harbour : HarbC K (He.ga K "Harbour") := ⟨cl_Harbour, He.noat_ok (c.fact 106 (f := .noat "Harbour" "timetable") rfl), He.noat_ok (c.fact 107 (f := .noat "Harbour" "policy") rfl), He.noat_ok (c.fact 108 (f := .noat "Harbour" "dock") rfl), He.noat_ok (c.fact 109 (f := .noat "Harbour" "today") rfl), He.noat_ok (c.fact 110 (f := .noat "Harbour" "history") rfl)⟩
  have e := hfa.symm.trans g_law
  cases e
  have b := FunD.bindsA (ps := p_law) F_law fun _ _ _ _ _ _ us hl => match us, hl with | [_], _ => rfl
  refine ⟨fd_law, fun s v => b s [v] rfl, fun base _ _ => ?_⟩
  have D_is_int := ok_is_int (P := P) (w := w) (base := base) B F_is_int g_is_int
  have D_in_range := ok_in_range D_is_int F_in_range g_in_range
  have D_is_ship := ok_is_ship B T D_in_range F_is_ship g_is_ship
  have D_day_events := ok_day_events (P := P) (w := w) (base := base) B T F_day_events g_day_events
  have D_count_at_midnight := ok_count_at_midnight (P := P) (w := w) (base := base) F_count_at_midnight g_count_at_midnight
  have D_counts := ok_counts T D_count_at_midnight D_day_events F_counts g_counts
  have D_peak_of := ok_peak_of B D_counts F_peak_of g_peak_of
  have D_is_table := ok_is_table B T D_in_range D_is_ship D_peak_of F_is_table g_is_table
  have D_require_table := ok_require_table E_NoTable D_is_table F_require_table g_require_table
  have D_valid_policy := ok_valid_policy B Rr D_in_range D_peak_of F_valid_policy g_valid_policy
  have D_require_policy := ok_require_policy E_NoPolicy D_valid_policy F_require_policy g_require_policy
  have D_is_stranger := ok_is_stranger B Rr D_in_range F_is_stranger g_is_stranger
  have D_valid_start := ok_valid_start B Rr D_is_stranger F_valid_start g_valid_start
  have D_require_start := ok_require_start E_NoStart D_valid_start F_require_start g_require_start
  have D_require_days := ok_require_days E_NoDays D_in_range F_require_days g_require_days
  have D_arrival_order := ok_arrival_order (P := P) (w := w) (base := base) B F_arrival_order g_arrival_order
  have D_mk_Dock : MkOk P w K mg base "Dock" (He.ga K "Dock") _ p_Dock_init [] _ := ⟨_, _, [], ok_Dock_init C_Dock B Rr F_Dock_init, He.mkr_ok (c.fact 93 (f := .mkr "Dock") rfl), g_Dock, (F_Dock_init.bindsN (fun _ _ _ _ _ _ us hl => match us, hl with | [_, _, _, _], _ => rfl)), .nil⟩
  have D_Dock_copy : MetOk P w K mg base (He.ga K "Dock") "copy" _ p_Dock_copy [] _ := ⟨_, _, [], ok_Dock_copy C_Dock B D_mk_Dock F_Dock_copy, He.meth_ok (c.fact 94 (f := .meth "Dock" "copy") rfl), (F_Dock_copy.bindsN (fun _ _ _ _ _ _ us hl => match us, hl with | [_], _ => rfl)), .nil⟩
  have D_Dock_leave_until : MetOk P w K mg base (He.ga K "Dock") "leave_until" _ p_Dock_leave_until [] _ := ⟨_, _, [], ok_Dock_leave_until (P := P) (w := w) (base := base) (mg := mg) C_Dock B Rr F_Dock_leave_until, He.meth_ok (c.fact 95 (f := .meth "Dock" "leave_until") rfl), (F_Dock_leave_until.bindsN (fun _ _ _ _ _ _ us hl => match us, hl with | [_, _], _ => rfl)), .nil⟩
  have D_Dock_least_unused : MetOk P w K mg base (He.ga K "Dock") "least_unused" _ p_Dock_least_unused [] _ := ⟨_, _, [], ok_Dock_least_unused (P := P) (w := w) (base := base) (mg := mg) F_Dock_least_unused, He.meth_ok (c.fact 96 (f := .meth "Dock" "least_unused") rfl), (F_Dock_least_unused.bindsN (fun _ _ _ _ _ _ us hl => match us, hl with | [_, _], _ => rfl)), .nil⟩
  have D_Dock_choose : MetOk P w K mg base (He.ga K "Dock") "choose" _ p_Dock_choose [] _ := ⟨_, _, [], ok_Dock_choose C_Dock Rr cl_Dock D_Dock_least_unused F_Dock_choose, He.meth_ok (c.fact 97 (f := .meth "Dock" "choose") rfl), (F_Dock_choose.bindsN (fun _ _ _ _ _ _ us hl => match us, hl with | [_], _ => rfl)), .nil⟩
  have D_NoRoom : OMk P w K mg base "NoRoom" (He.ga K "NoRoom") 1 p_NoRoom_init _ := ⟨X_NoRoom.o, ⟨_, _, X_NoRoom.i, X_NoRoom.t, ok_NoRoom_init ⟨X_NoRoom.o, X_NoRoom.d, X_NoRoom.s⟩ F_NoRoom_init, F_NoRoom_init.bindsN (fun _ _ _ _ _ _ us hl => match us, hl with | [_, _, _], _ => rfl), g_NoRoom⟩⟩
  have E_NoRoom : RoomC K mg (He.ga K "NoRoom") := ⟨g_NoRoom, X_NoRoom.m, X_NoRoom.x, X_NoRoom.d, X_NoRoom.s⟩
  obtain ⟨dse, vde, be⟩ := F_Dock_enter.binds1 (ps := p_Dock_enter) 2 0 (by simp [He.DefD.dvs, d_Dock_enter]) rfl (fun T kV doc pm an cdv ct us its hl hl2 => match us, hl, its, hl2 with | [_, _], _, [_], _ => ⟨_, rfl, rfl⟩)
  have D_Dock_enter : MetOk P w K mg base (He.ga K "Dock") "enter" _ p_Dock_enter [.int 0] _ := ⟨_, _, dse, ok_Dock_enter C_Dock cl_Dock D_NoRoom D_Dock_leave_until D_Dock_choose F_Dock_enter, He.meth_ok (c.fact 98 (f := .meth "Dock" "enter") rfl), be, vde⟩
  have D_Dock_end_day : MetOk P w K mg base (He.ga K "Dock") "end_day" _ p_Dock_end_day [] _ := ⟨_, _, [], ok_Dock_end_day C_Dock cl_Dock D_Dock_leave_until F_Dock_end_day, He.meth_ok (c.fact 99 (f := .meth "Dock" "end_day") rfl), (F_Dock_end_day.bindsN (fun _ _ _ _ _ _ us hl => match us, hl with | [_], _ => rfl)), .nil⟩
  have D_Dock_next_day : MetOk P w K mg base (He.ga K "Dock") "next_day" _ p_Dock_next_day [] _ := ⟨_, _, [], ok_Dock_next_day C_Dock cl_Dock D_arrival_order D_Dock_enter D_Dock_end_day F_Dock_next_day, He.meth_ok (c.fact 100 (f := .meth "Dock" "next_day") rfl), (F_Dock_next_day.bindsN (fun _ _ _ _ _ _ us hl => match us, hl with | [_], _ => rfl)), .nil⟩
  have D_Dock_switch : MetOk P w K mg base (He.ga K "Dock") "switch" _ p_Dock_switch [] _ := ⟨_, _, [], ok_Dock_switch (P := P) (w := w) (base := base) (mg := mg) C_Dock F_Dock_switch, He.meth_ok (c.fact 101 (f := .meth "Dock" "switch") rfl), (F_Dock_switch.bindsN (fun _ _ _ _ _ _ us hl => match us, hl with | [_, _], _ => rfl)), .nil⟩
  obtain ⟨mv, bk⟩ := F_Harbour_init.kbinds0 (ps := p_Harbour_init) 3 ["start"] [] (fun us mv ws => us ++ ws) (by simp [He.DefD.kws, d_Harbour_init]) (by simp) (fun r1 r2 r3 => r1.append r3) (fun D doc pm an cdv ct us mv ws h1 h2 h3 => match us, h1, mv, h2, ws, h3 with | [_, _, _], _, [], _, [_], _ => rfl)
  have D_mkK_Harbour : MkKOk P w K mg base "Harbour" (He.ga K "Harbour") 6 p_Harbour_init 2 ["start"] (fun vs zs => vs ++ zs) _ := ⟨_, _, _, ok_Harbour_init C_Harbour D_require_table D_require_policy D_require_start D_mk_Dock F_Harbour_init, He.mkr_ok (c.fact 111 (f := .mkr "Harbour") rfl), g_Harbour, bk⟩
  obtain ⟨mv0, bk0⟩ := F_Harbour_init.kbinds0 (ps := p_Harbour_init) 3 [] [("start", .ref (startAd K))] (fun us mv ws => us ++ (mv ++ ws)) (by simp [He.DefD.kws, d_Harbour_init]) (fun q hq => hq) (fun r1 r2 r3 => r1.append (r2.append r3)) (fun D doc pm an cdv ct us mv ws h1 h2 h3 => match us, h1, mv, h2, ws, h3 with | [_, _, _], _, [_], _, [], _ => ⟨_, _, _, _, _, _, rfl, rfl, rfl⟩)
  have D_mk0_Harbour : MkKOk P w K mg base "Harbour" (He.ga K "Harbour") 6 p_Harbour_init 2 [] (fun vs zs => vs ++ ([.ref (startAd K)] ++ zs)) _ := ⟨_, _, _, ok_Harbour_init C_Harbour D_require_table D_require_policy D_require_start D_mk_Dock F_Harbour_init, He.mkr_ok (c.fact 111 (f := .mkr "Harbour") rfl), g_Harbour, bk0⟩
  have D_Harbour_commit : MetOk P w K mg base (He.ga K "Harbour") "commit" _ p_Harbour_commit [] _ := ⟨_, _, [], ok_Harbour_commit (P := P) (w := w) (base := base) (mg := mg) (CD := He.ga K "Dock") C_Harbour F_Harbour_commit, He.meth_ok (c.fact 115 (f := .meth "Harbour" "commit") rfl), (F_Harbour_commit.bindsN (fun _ _ _ _ _ _ us hl => match us, hl with | [_, _, _, _, _], _ => rfl)), .nil⟩
  have D_Harbour_advance : MetOk P w K mg base (He.ga K "Harbour") "advance" _ p_Harbour_advance [] _ := ⟨_, _, [], ok_Harbour_advance C_Harbour cl_Dock cl_Harbour B RH D_require_days D_Dock_copy D_Dock_next_day D_Harbour_commit F_Harbour_advance, He.meth_ok (c.fact 116 (f := .meth "Harbour" "advance") rfl), (F_Harbour_advance.bindsN (fun _ _ _ _ _ _ us hl => match us, hl with | [_, _], _ => rfl)), .nil⟩
  have D_Harbour_replace : MetOk P w K mg base (He.ga K "Harbour") "replace" _ p_Harbour_replace [] _ := ⟨_, _, [], ok_Harbour_replace C_Harbour cl_Dock cl_Harbour E_NoTable D_require_table D_require_policy D_Dock_copy D_Dock_switch D_Harbour_commit F_Harbour_replace, He.meth_ok (c.fact 117 (f := .meth "Harbour" "replace") rfl), (F_Harbour_replace.bindsN (fun _ _ _ _ _ _ us hl => match us, hl with | [_, _], _ => rfl)), .nil⟩
  have D_Harbour_undo : MetOk P w K mg base (He.ga K "Harbour") "undo" _ p_Harbour_undo [] _ := ⟨_, _, [], ok_Harbour_undo (P := P) (w := w) (base := base) (CD := He.ga K "Dock") C_Harbour E_Nothing F_Harbour_undo, He.meth_ok (c.fact 118 (f := .meth "Harbour" "undo") rfl), (F_Harbour_undo.bindsN (fun _ _ _ _ _ _ us hl => match us, hl with | [_], _ => rfl)), .nil⟩
  have D_Harbour_day : MetOk P w K mg base (He.ga K "Harbour") "day" _ p_Harbour_day [] _ := ⟨_, _, [], ok_Harbour_day (P := P) (w := w) (base := base) (mg := mg) (CD := He.ga K "Dock") C_Harbour F_Harbour_day, He.meth_ok (c.fact 119 (f := .meth "Harbour" "day") rfl), (F_Harbour_day.bindsN (fun _ _ _ _ _ _ us hl => match us, hl with | [_], _ => rfl)), .nil⟩
  have D_Harbour_log : MetOk P w K mg base (He.ga K "Harbour") "log" _ p_Harbour_log [] _ := ⟨_, _, [], ok_Harbour_log (P := P) (w := w) (base := base) (mg := mg) (CD := He.ga K "Dock") C_Harbour F_Harbour_log, He.meth_ok (c.fact 121 (f := .meth "Harbour" "log") rfl), (F_Harbour_log.bindsN (fun _ _ _ _ _ _ us hl => match us, hl with | [_], _ => rfl)), .nil⟩
  have D_Harbour_occupied : MetOk P w K mg base (He.ga K "Harbour") "occupied" _ p_Harbour_occupied [] _ := ⟨_, _, [], ok_Harbour_occupied (P := P) (w := w) (base := base) (mg := mg) C_Harbour C_Dock B F_Harbour_occupied, He.meth_ok (c.fact 120 (f := .meth "Harbour" "occupied") rfl), (F_Harbour_occupied.bindsN (fun _ _ _ _ _ _ us hl => match us, hl with | [_], _ => rfl)), .nil⟩
  have D_Harbour_len : OneOk P w K mg base (He.ga K "Harbour") "__len__" _ p_Harbour_len _ := ⟨_, _, ok_Harbour_len C_Harbour C_Dock B F_Harbour_len, (He.meth_ok (c.fact 112 (f := .meth "Harbour" "__len__") rfl)).at_, (He.meth_ok (c.fact 112 (f := .meth "Harbour" "__len__") rfl)).fn, (F_Harbour_len.bindsN (fun _ _ _ _ _ _ us hl => match us, hl with | [_], _ => rfl))⟩
  have D__law_pail := ok_law_pail (P := P) (w := w) (base := base) B F__law_pail g__law_pail
  have D__law_dip := ok_law_dip (P := P) (w := w) (base := base) F__law_dip g__law_dip
  have D__law_hours := ok_law_hours D__law_dip F__law_hours g__law_hours
  have D__law_table := ok_law_table B D__law_dip F__law_table g__law_table
  have D__law_peak := ok_law_peak (P := P) (w := w) (base := base) B F__law_peak g__law_peak
  have D__law_policy := ok_law_policy D__law_peak D__law_dip F__law_policy g__law_policy
  have D__law_start := ok_law_start B D__law_dip F__law_start g__law_start
  have D__law_dock := ok_law_dock (P := P) (w := w) (base := base) B F__law_dock g__law_dock
  have D__law_copied := ok_law_copied (P := P) (w := w) (base := base) B F__law_copied g__law_copied
  have D__law_leave := ok_law_leave (P := P) (w := w) (base := base) B F__law_leave g__law_leave
  have D__law_least_not_in := ok_law_least (P := P) (w := w) (base := base) F__law_least_not_in g__law_least_not_in
  have D__law_choice := ok_law_choice D__law_least_not_in F__law_choice g__law_choice
  have D__law_day := ok_law_day B D__law_leave D__law_choice F__law_day g__law_day
  have D__law_days := ok_law_days B D__law_day F__law_days g__law_days
  have S0 := law_same0 (P := P) (w := w) (base := base) F__law_same g__law_same
  have S1 := ok_law_same B S0 F__law_same g__law_same
  have S2 := ok_law_same B S1 F__law_same g__law_same
  have S3 := ok_law_same B S2 F__law_same g__law_same
  have S4 := ok_law_same B S3 F__law_same g__law_same
  have S5 := ok_law_same B S4 F__law_same g__law_same
  have S6 := ok_law_same B S5 F__law_same g__law_same
  have S7 := ok_law_same B S6 F__law_same g__law_same
  have S8 := ok_law_same B S7 F__law_same g__law_same
  have D__law_right := ok_law_right B cl_Harbour D_Harbour_occupied D_Harbour_day D_Harbour_log D_Harbour_len S8 F__law_right g__law_right
  have D_kind : DefP P w K mg base "_law_kind" 1 p__law_kind (spKindD K (He.ga K)) := ⟨_, _, ok_law_kind_d B KG F__law_kind, g__law_kind, F__law_kind.kp, F__law_kind.bindsN (fun _ _ _ _ _ _ us hl => match us, hl with | [_], _ => rfl)⟩
  have D__law_advanced := ok_law_advanced B g_BerthError KB_NoRoom K_NoRoom.c D_kind cl_Harbour E_NoRoom D_Harbour_advance F__law_advanced g__law_advanced
  have D__law_first_without := ok_law_first_without B D__law_day F__law_first_without g__law_first_without
  exact ok_law (CE := 0) (CN := 0) B S_start cl_Harbour D__law_pail D__law_dip D__law_hours D__law_table D__law_peak D_mk0_Harbour D__law_dock D__law_copied D__law_days D__law_first_without S8 D__law_right D__law_advanced D_Harbour_replace D_Harbour_undo F_law
end Ba

set_option maxHeartbeats 0
namespace Ba
open PySem PySem.W PySem.Calls PyProof.Rows
theorem row_holds : PySem.Challenge.rw_berths_k52_no_room.Holds := by
  w_on; o_law
  refine HandSHeadRun.head_any (r := OpenLaw.row PySem.Challenge.rw_berths_k52_no_room) (q := view (OpenLaw.row PySem.Challenge.rw_berths_k52_no_room).prog [71]) (H := hk) (ob := ob) (M := 8000) (loose := loose) (d := HandSHeadRun.topDef (OpenLaw.row PySem.Challenge.rw_berths_k52_no_room).prog 71) (kwd := []) ob_eq
    (by kernel_rfl) (fun s => by kernel_rfl) run (by kernel_rfl) (by kernel_rfl) (by kernel_rfl) (by rfl) (by first | assumption | decide +kernel) (by decide +kernel) ⟨rfl, rfl, rfl, rfl, rfl, by decide +kernel⟩ ?hw ?hc
  case hw => w_witness2
  case hc =>
    refine walk_w (l := PySem.Challenge.rw_berths_k52_no_room) (n := 63) (k := 10) (x := "_law_script") rfl (by decide) (by kernel_rfl) ⟨rfl, by decide, by decide⟩ ?F
    intro w mg fa h Y G hmg0
    obtain ⟨K, KX, c⟩ := Y
    have hmg : mg ("law" : PySem.Str) = some (.ref fa) := by
      have e : (HandSHeadRun.topDef (OpenLaw.row PySem.Challenge.rw_berths_k52_no_room).prog 71).name = ("law" : PySem.Str) := by kernel_rfl
      rw [← e]
      exact hmg0
    obtain ⟨fd, hb, hF⟩ := law_facts (P := (PySem.Challenge.rw_berths_k52_no_room).prog) (w := w) KX G hmg c
    exact ⟨K, fd, spLaw K, KX, hb, fun H a ns hl _ hS => ⟨a, ns, rfl, hS, fun _ => rfl⟩, hF⟩
end Ba

theorem PySem.Challenge.cw_berths_k52_no_room_holds : PySem.Challenge.rw_berths_k52_no_room.Holds :=
  Ba.row_holds
