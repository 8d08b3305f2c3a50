import PyProof.Rows.All
import Wide.All
import OpenK.AllK
import Wide.FinOn
import HandS.ForMost
import HandS.ForExc
import HandS.IsInst
import HandS.Deep
import HandS.Defaults
import KE.SortData
import KE.GoesEnum
import HandS.ExcCtx
import HandS.SortKw
import HandS.Wide
import HandS.Zip
import HandS.DictComp
import HandS.Conv
import HandS.Style
import HandS.OwnEq
import HandS.MakeKwOnly
import KE.DataMinMax
import KE.DataEq
import HandS.ExcInit
import HandS.Walk
import HandS.Nested
import KE.KDictPairs
import KE.RegKCallOwn
import PyProof.ReprRoads
import PyProof.Rows.ReprR
import HandS.Ends
import HandS.ExcOwn
import HandS.TryOnly
import HandS.ExcField
import HandS.HotCalls
import HandS.Comp
import KE.GoesComp
import HandS.Hot
import HandS.ExcIs
import KE.KUnpackStar
import HandS.FStr
import HandS.Codes
import HandS.CallSlots
import HandS.TupAny
import PySem.Challenge.RW_berths_k57_timetables_as_text
import KE.SortLaws
import HandS.ExcInitHot
import HandS.HeadHook1
import HandS.HeadHook2
import KE.KStateDown
import Lean
import HandS.Base
import HandS.Call
import HandS.More
import HandS.Words
import HandS.WordsExc
import HandS.Head0
import HandS.Head1
import HandS.Head2
import HandS.HeadEnd
set_option Elab.async false
set_option linter.all false
set_option maxRecDepth 100000
set_option maxHeartbeats 4000000
/-! Rules of our own over the hand layer: data by Tp, isinstance of data, sorted and order of data, enumerate of a tuple. -/
namespace Ba
open PySem PySem.Spec PyProof.Rows L2

/-! ### immutable data -/
mutual
inductive Tp (H : Hp) : V → PyData → Prop
  | non : Tp H .non .none
  | bl (b : Bool) : Tp H (.bl b) (.bool b)
  | int (i : Int) : Tp H (.int i) (.int i)
  | str (x : Str) : Tp H (.str x) (.str x)
  | tup {a : Addr} {xs : List V} {ds : List PyData} : H a = some (.tup xs) → TpAll H xs ds → Tp H (.ref a) (.tuple ds)
inductive TpAll (H : Hp) : List V → List PyData → Prop
  | nil : TpAll H [] []
  | cons {v : V} {vs : List V} {d : PyData} {ds : List PyData} : Tp H v d → TpAll H vs ds → TpAll H (v :: vs) (d :: ds)
end
/-- tuples stay -/
def TK (H H' : Hp) : Prop := ∀ a xs, H a = some (.tup xs) → H' a = some (.tup xs)
theorem TK.refl (H : Hp) : TK H H := fun _ _ h => h
theorem TK.trans {H H1 H2 : Hp} (a : TK H H1) (b : TK H1 H2) : TK H H2 := fun p xs h => b p xs (a p xs h)
theorem TK.new {H : Hp} {p : Addr} {o : HO} (h : H p = none) : TK H (upd H p o) := fun a xs e => by
  rw [upd_ne (ne_of_none e h)]; exact e
mutual
theorem Tp.mono {H H' : Hp} (k : TK H H') : ∀ (d : PyData) (v : V), Tp H v d → Tp H' v d
  | .none, _, h => by cases h; exact .non
  | .bool _, _, h => by cases h; exact .bl _
  | .int _, _, h => by cases h; exact .int _
  | .str _, _, h => by cases h; exact .str _
  | .list _, _, h => by cases h
  | .dict _, _, h => by cases h
  | .tuple ds, _, h => by
    cases h with
    | tup h1 h2 => exact .tup (k _ _ h1) (TpAll.mono k ds _ h2)
theorem TpAll.mono {H H' : Hp} (k : TK H H') : ∀ (ds : List PyData) (vs : List V), TpAll H vs ds → TpAll H' vs ds
  | [], _, h => by cases h; exact .nil
  | d :: ds, _, h => by
    cases h with
    | cons h1 h2 => exact .cons (Tp.mono k d _ h1) (TpAll.mono k ds _ h2)
end
mutual
theorem Tp.dp {K : PySem.W.Frag} {H : Hp} : ∀ (d : PyData) (v : V), Tp H v d → Dp K H v d
  | .none, _, h => by cases h; exact .non
  | .bool _, _, h => by cases h; exact .bl _
  | .int _, _, h => by cases h; exact .int _
  | .str _, _, h => by cases h; exact .str _
  | .list _, _, h => by cases h
  | .dict _, _, h => by cases h
  | .tuple ds, _, h => by
    cases h with
    | tup h1 h2 => exact .tup (SqT.of h1) (TpAll.dp ds _ h2)
theorem TpAll.dp {K : PySem.W.Frag} {H : Hp} : ∀ (ds : List PyData) (vs : List V), TpAll H vs ds → DpAll K H vs ds
  | [], _, h => by cases h; exact .nil
  | d :: ds, _, h => by
    cases h with
    | cons h1 h2 => exact .cons (Tp.dp d _ h1) (TpAll.dp ds _ h2)
end
theorem TpAll.length {H : Hp} : ∀ {vs : List V} {ds : List PyData}, TpAll H vs ds → vs.length = ds.length
  | _, _, .nil => rfl
  | _, _, .cons _ t => by rw [List.length_cons, List.length_cons, TpAll.length t]
theorem TpAll.get {H : Hp} : ∀ {vs : List V} {ds : List PyData} {i : Nat} {v : V}, TpAll H vs ds → vs[i]? = some v → ∃ d, ds[i]? = some d ∧ Tp H v d
  | _, _, _, _, .nil, e => by simp at e
  | _, _, 0, _, .cons h _, e => by simp at e; subst e; exact ⟨_, rfl, h⟩
  | _, _, i + 1, v, .cons _ t, e => by
    obtain ⟨d, h1, h2⟩ := TpAll.get (i := i) t (by simpa using e)
    exact ⟨d, by simpa using h1, h2⟩
theorem TpAll.getD {H : Hp} : ∀ {vs : List V} {ds : List PyData} {i : Nat} {d : PyData}, TpAll H vs ds → ds[i]? = some d → ∃ v, vs[i]? = some v ∧ Tp H v d
  | _, _, _, _, .nil, e => by simp at e
  | _, _, 0, _, .cons h _, e => by simp at e; subst e; exact ⟨_, rfl, h⟩
  | _, _, i + 1, d, .cons _ t, e => by
    obtain ⟨v, h1, h2⟩ := TpAll.getD (i := i) t (by simpa using e)
    exact ⟨v, by simpa using h1, h2⟩
theorem TpAll.append {H : Hp} : ∀ {vs ws : List V} {ds es : List PyData}, TpAll H vs ds → TpAll H ws es → TpAll H (vs ++ ws) (ds ++ es)
  | _, _, _, _, .nil, s => s
  | _, _, _, _, .cons h t, s => .cons h (TpAll.append t s)

/-! ### the kind of a datum -/
def tyN : PyData → String
  | .none => "NoneType"
  | .bool _ => "bool"
  | .int _ => "int"
  | .str _ => "str"
  | .list _ => "list"
  | .tuple _ => "tuple"
  | .dict _ => "dict"
theorem sqL_ty {K : PySem.W.Frag} {H : Hp} {a : Addr} {xs : List V} (h : SqL K H a xs) : TyX K H (.ref a) (.type "list") := by
  rcases h with h | ⟨o, its, n, h1, h2, _⟩
  · rcases h with h | ⟨o, h⟩
    · exact .base (.lst h)
    · exact .base (.frz h)
  · exact .kList h1 h2
theorem sqT_ty {K : PySem.W.Frag} {H : Hp} {a : Addr} {xs : List V} (h : SqT K H a xs) : TyX K H (.ref a) (.type "tuple") := by
  rcases h with h | ⟨o, its, n, h1, h2, _⟩
  · rcases h with h | ⟨o, h⟩
    · exact .base (.tup h)
    · exact .fTuple h
  · exact .kTuple h1 h2
theorem dp_ty {K : PySem.W.Frag} {H : Hp} {v : V} {d : PyData} (h : Dp K H v d) : TyX K H v (.type (tyN d)) := by
  cases h with
  | non => exact .base .non
  | bl b => exact .base (.bl b)
  | int i => exact .base (.int i)
  | str x => exact .base (.str x)
  | lst h _ => exact sqL_ty h
  | tup h _ => exact sqT_ty h
/-- isinstance(x, T), x of the kind t: the answer -/
def isA (t T : String) : Bool := (kitB t T).getD false
def rIsA (K : PySem.W.Frag) : List V → Hp → VK → Prop := fun xs H Q => ∃ (x : V) (t T : String) (b : Bool), xs = [x, .ty T] ∧ TyX K H x (.type t) ∧ kitB t T = some b ∧ Q (.bl b) H
theorem call_isA {X : Cx} : CallR X (.builtin "isinstance") (rIsA X.K) := by
  intro pins s σ H xs us Q I r h
  obtain ⟨x, t, T, b, rfl, ty, e, q⟩ := h
  exact call_isi pins s σ H _ us Q I r ⟨x, .ty T, _, _, b, rfl, .ty T, ty, kit_ty e, q⟩

/-! ### sorted of a list of data -/
section
variable {α : Type}
/-- sorted(xs): xs reads as bs.map enc; the values behind read as the sorted ones -/
def rSortD (K : PySem.W.Frag) (enc : α → PyData) : List V → Hp → VK → Prop := fun vs H Q => ∃ (a : Addr) (xs : List V) (bs : List α), vs = [V.ref a] ∧ SqL K H a xs ∧ TpAll H xs (bs.map enc) ∧
  (∀ b b', PySem.W.alike (enc b) (enc b') = true) ∧ (∀ b, ∃ x r, enc b = .tuple (x :: r)) ∧ (∀ b, (enc b).depth ≤ 60) ∧
  ∀ (ys : List V) (p : Addr), TpAll H ys ((bs.mergeSort (PySem.W.dataLe false enc)).map enc) → ys.length = bs.length → H p = none → Q (.ref p) (upd H p (.lst ys))
theorem each_of {X : Cx} {pins : List (Addr × Obj)} {s : Shared} {σ : L2.St} {H : Hp} (I : Inv X pins σ H s) (enc : α → PyData) : ∀ {bs : List α} {xs : List V} {us : List Value}, TpAll H xs (bs.map enc) → Vals xs us →
    PySem.W.EachIs (fun v b => ∃ x, RelV x v ∧ Tp H x (enc b)) us bs ∧ PySem.W.EachIs (fun v b => ∃ as, Reads s.heap v (enc b) as) us bs
  | [], _, _, h, r => by cases h; cases r; exact ⟨.nil, .nil⟩
  | b :: bs, _, _, h, r => by
    cases h with
    | cons h1 h2 =>
      cases r with
      | cons r1 r2 =>
        obtain ⟨e1, e2⟩ := each_of I enc h2 r2
        exact ⟨.cons ⟨_, r1, h1⟩ e1, .cons (Dp.reads I _ _ _ (Tp.dp _ _ h1) r1) e2⟩
theorem each_back {H : Hp} (enc : α → PyData) : ∀ {us : List Value} {bs : List α}, PySem.W.EachIs (fun v b => ∃ x, RelV x v ∧ Tp H x (enc b)) us bs → ∃ ys, Vals ys us ∧ TpAll H ys (bs.map enc)
  | _, _, .nil => ⟨[], .nil, .nil⟩
  | _, _, .cons ⟨x, r, h⟩ t => by
    obtain ⟨ys, r2, h2⟩ := each_back enc t
    exact ⟨x :: ys, .cons r r2, .cons h h2⟩
theorem cr_sortD {X : Cx} (hu : X.A.units + 64 < cLine) (enc : α → PyData) : CallR X (.builtin "sorted") (rSortD X.K enc) := by
  intro pins s σ H vs us Q I r h
  obtain ⟨a, xs, bs, rfl, hs, ht, hal, hk, hd, q⟩ := h
  obtain ⟨its, rv, hl, hz⟩ := I.list hs
  rw [Vals.ref1 r]
  obtain ⟨e1, e2⟩ := each_of I enc ht rv
  have hlb : xs.length = bs.length := by rw [ht.length, List.length_map]
  refine PySem.W.sorted_data hl.isList e1 e2 (PySem.W.AllAlike.of hal) (PySem.W.Sortable.tuples hk) (by omega) (fun b _ => by have := hd b; omega) fun out ho he => ?_
  obtain ⟨ys, r2, h2⟩ := each_back enc he
  obtain ⟨ep, he'⟩ := PyProof.Rows.sortedAll_at s.heap its out.toArray
  have hly : ys.length = bs.length := by rw [r2.length, ho]
  exact ⟨.ref _, upd H (s.heap.objs.size + 1) (.lst ys), I.laid (t' := s.toks) (fun _ _ => PyProof.Rows.sortedAll_old) (Nat.le_succ _) ⟨by rw [hly]; omega, out, ep, r2, he'⟩, rfl, q ys _ h2 hly (I.hok.fresh (Nat.le_succ _))⟩
end
end Ba

set_option maxHeartbeats 4000000
/-! Rules of our own over the hand layer: order, in, max of data; enumerate of a tuple; powers; len of an own instance. -/
namespace Ba
open PySem PySem.Spec PyProof.Rows L2
section
variable {X : Cx}
/-! ### order, equality, membership of immutable data -/
def rLtD : R2 := fun x y H Q => ∃ d e, Tp H x d ∧ Tp H y e ∧ PySem.W.alike d e = true ∧ d ≠ .none ∧ d.depth ≤ 60 ∧ Q (.bl (PySem.W.dataLt d e)) H
def rGtD : R2 := fun x y H Q => ∃ d e, Tp H x d ∧ Tp H y e ∧ PySem.W.alike d e = true ∧ d ≠ .none ∧ d.depth ≤ 60 ∧ Q (.bl (PySem.W.dataLt e d)) H
theorem op_ltD (hu : X.A.units + 64 < cLine) : OpR X (compareOp .Lt) rLtD := by
  intro pins s σ H x y v u Q I rx ry h
  obtain ⟨d, e, hd, he, ha, hn, hz, q⟩ := h
  obtain ⟨as, r1⟩ := Dp.reads I d x v (Tp.dp _ _ hd) rx
  obtain ⟨bs, r2⟩ := Dp.reads I e y u (Tp.dp _ _ he) ry
  exact PySem.W.lt_data r1 r2 ha hn (by omega) ⟨.bl _, H, I, rfl, q⟩
theorem op_gtD (hu : X.A.units + 64 < cLine) : OpR X (compareOp .Gt) rGtD := by
  intro pins s σ H x y v u Q I rx ry h
  obtain ⟨d, e, hd, he, ha, hn, hz, q⟩ := h
  obtain ⟨as, r1⟩ := Dp.reads I d x v (Tp.dp _ _ hd) rx
  obtain ⟨bs, r2⟩ := Dp.reads I e y u (Tp.dp _ _ he) ry
  exact PySem.W.gt_data r1 r2 ha hn (by omega) ⟨.bl _, H, I, rfl, q⟩
/-- == of data that Dp tells -/
def rEqP (K : PySem.W.Frag) : R2 := fun x y H Q => ∃ d e, Dp K H x d ∧ Dp K H y e ∧ d.plain = true ∧ e.plain = true ∧ d.depth ≤ 60 ∧ Q (.bl (PyData.eqv d e)) H
def rNeP (K : PySem.W.Frag) : R2 := fun x y H Q => ∃ d e, Dp K H x d ∧ Dp K H y e ∧ d.plain = true ∧ e.plain = true ∧ d.depth ≤ 60 ∧ Q (.bl (!PyData.eqv d e)) H
theorem op_eqP (hu : X.A.units + 64 < cLine) : OpR X (compareOp .Eq) (rEqP X.K) := by
  intro pins s σ H x y v u Q I rx ry h
  obtain ⟨d, e, hd, he, pd, pe, hz, q⟩ := h
  obtain ⟨as, r1⟩ := Dp.reads I d x v hd rx
  obtain ⟨bs, r2⟩ := Dp.reads I e y u he ry
  exact SeqAt.eq_plain r1 r2 pd pe (by omega) ⟨.bl _, H, I, rfl, q⟩
theorem op_neP (hu : X.A.units + 64 < cLine) : OpR X (compareOp .NotEq) (rNeP X.K) := by
  intro pins s σ H x y v u Q I rx ry h
  obtain ⟨d, e, hd, he, pd, pe, hz, q⟩ := h
  obtain ⟨as, r1⟩ := Dp.reads I d x v hd rx
  obtain ⟨bs, r2⟩ := Dp.reads I e y u he ry
  exact SeqAt.ne_plain r1 r2 pd pe (by omega) ⟨.bl _, H, I, rfl, q⟩
/-- x in (a, b, ..), x not in (a, b, ..) -/
def rInP (K : PySem.W.Frag) (neg : Bool) : R2 := fun x y H Q => ∃ d es, Dp K H x d ∧ Dp K H y (.tuple es) ∧ d.plain = true ∧ PyData.plainAll es = true ∧ d.depth ≤ 60 ∧ Q (.bl (if neg then !(es.any fun z => PyData.eqv z d) else es.any fun z => PyData.eqv z d)) H
theorem op_inP (hu : X.A.units + 64 < cLine) : OpR X (compareOp .In) (rInP X.K false) := by
  intro pins s σ H x y v u Q I rx ry h
  obtain ⟨d, es, hd, he, pd, pe, hz, q⟩ := h
  obtain ⟨as, r1⟩ := Dp.reads I d x v hd rx
  obtain ⟨bs, r2⟩ := Dp.reads I _ y u he ry
  exact SeqAt.in_tuple_data r2 r1 pe pd (by omega) ⟨.bl _, H, I, rfl, q⟩
theorem op_notInP (hu : X.A.units + 64 < cLine) : OpR X (compareOp .NotIn) (rInP X.K true) := by
  intro pins s σ H x y v u Q I rx ry h
  obtain ⟨d, es, hd, he, pd, pe, hz, q⟩ := h
  obtain ⟨as, r1⟩ := Dp.reads I d x v hd rx
  obtain ⟨bs, r2⟩ := Dp.reads I _ y u he ry
  exact SeqAt.notIn_tuple_data r2 r1 pe pd (by omega) ⟨.bl _, H, I, rfl, q⟩

/-! ### max(xs, default=d), ints -/
theorem alike_int (ns : List Int) : PySem.W.AlikeAll (ns.map .int) := by
  refine ⟨fun x hx y hy => ?_, fun x hx => ?_⟩
  · obtain ⟨i, _, rfl⟩ := List.mem_map.mp hx
    obtain ⟨j, _, rfl⟩ := List.mem_map.mp hy
    rfl
  · obtain ⟨i, _, rfl⟩ := List.mem_map.mp hx
    intro z
    cases z
theorem dp_ints {K : PySem.W.Frag} {H : Hp} : ∀ ns : List Int, DpAll K H (ns.map V.int) (ns.map PyData.int)
  | [] => .nil
  | n :: ns => .cons (.int n) (dp_ints ns)
def maxI : List Int → Int → Int
  | [], d => d
  | n :: ns, _ => ns.foldl max n
def rMaxDef (K : PySem.W.Frag) : List V → List V → Hp → VK → Prop := fun vs zs H Q => ∃ (a : Addr) (ns : List Int) (d : Int), vs = [V.ref a] ∧ zs = [V.int d] ∧ SqL K H a (ns.map V.int) ∧ Q (.int (maxI ns d)) H
theorem depth_int : ∀ ns : List Int, PyData.depthAll (ns.map .int) = 0 := PySem.W.depth_ints
theorem cr_maxDef (hc : X.calm = true) (hu : X.A.units + 64 < cLine) : CallRK X (.builtin "max") [Str.ofString "default"] (rMaxDef X.K) := by
  intro pins s σ H vs zs us ws Q I r rz h
  obtain ⟨a, ns, d, rfl, rfl, hs, q⟩ := h
  obtain rfl := Vals.ref1 r
  obtain ⟨w1, rfl, t, e1⟩ := vals1 rz
  obtain ⟨its, rv, hl, hz⟩ := I.list hs
  obtain ⟨as, hr⟩ := Dp.readsAll I _ _ _ (dp_ints ns) rv
  refine PySem.W.max_list_default (xs := ns.map .int) (I.ok.hd hc) hl.isList (by simpa using hr) (alike_int ns) (by rw [depth_int]; omega) (fun he h' tk k => ?_) (fun y ys i v h' tk bs he hv hr' k => ?_)
  · cases ns with
    | nil => exact ⟨.int d, H, I.kept k, ⟨t, e1⟩, q⟩
    | cons n ns => cases he
  · cases ns with
    | nil => cases he
    | cons n ns =>
      cases he
      rw [PySem.W.maxD_ints] at hr'
      cases hr' with
      | int _ t' => exact ⟨.int _, H, I.kept k, ⟨_, rfl⟩, q⟩

/-! ### powers of great ints -/
def CPowW (i j : Int) : Prop := 0 ≤ j ∧ j ≤ 1000 ∧ i.natAbs < 2 ^ 100000
theorem op_powW : OpR X (binaryOp .Pow) (rI CPowW fun i j => .int (i ^ j.toNat)) := opI fun i j _ _ _ _ _ hc q => by
  obtain ⟨h0, h1, h2⟩ := hc
  refine pow_int h0 ?_ q
  have hb : Builtin.Int.intBits i ≤ 100000 := intBits_le h2
  have h3 : (Builtin.Int.intBits i : Int) * j ≤ 100000 * 1000 := Int.mul_le_mul (by omega) h1 h0 (by omega)
  have h4 : ((100000 * 1000 : Int)) ≤ 2 ^ 27 := by decide
  exact Int.le_trans h3 h4

/-! ### len of an own instance by its __len__ -/
theorem one_len {C f : Addr} {fd : FuncData} {ps : List Str} {sp : Sp} {CX : CXT} {k : Nat} {E : XK} (F : FnOk X.prog X.w X.K X.mg X.base CX k f fd ps sp) (hr : Room (k + 1) X.A)
    (hs : PySem.W.findIn X.K (.ref C) "__len__" = some (some (.ref f))) (hf : PySem.W.isFn X.K (.ref f) = true) (hb : Binds X.K fd ps []) (hx : Passes CX X E) :
    CallR X (.builtin "len") (fun xs H Q => ∃ a dx fs, xs = [V.ref a] ∧ H a = some (.ins C dx fs) ∧ sp [.ref a] H (fun v H' => ∃ n : Int, v = .int n ∧ 0 ≤ n ∧ n < 2 ^ 63 ∧ Q (.int n) H') E) := by
  intro pins s σ H xs us Q I r h
  obtain ⟨a, dx, fs, rfl, ha, hsp⟩ := h
  obtain rfl := Vals.ref1 r
  obtain ⟨mA, J, _⟩ := ins_get I.hok ha
  obtain ⟨od, J, _⟩ := J.look
  obtain ⟨m, hF⟩ := I.fr
  refine PySem.W.len_K hF I.ok.mod.kin J hs hf ?_
  have hl := F.len _ _ _ _ hsp
  have r2 : Vals [V.ref a] [Value.ref a] := .cons rfl .nil
  have e0 : Env0 X.prog X.w X.K X.mg X.base X.A.in1 X.stack s H := I.env0.in1
  refine wpAny_call (codeAny_mono (F.run X.A.in1 X.stack s H ⟨[.ref a], []⟩ [.ref a] [.ref a] _ E hr.in1 e0 (by
    have := hb s [.ref a] I.kIn (by simpa using hl)
    simpa using this) r2 hsp) fun r s' hq => ?_)
  cases r with
  | error e => exact hx pins σ H s e s' I hq
  | ok fl =>
    cases fl with
    | ret w =>
      obtain ⟨z, H', I', rz, n, ez, h0, h1, q⟩ := I.after hq
      subst ez
      obtain ⟨t, rfl⟩ := rz
      exact ⟨⟨h0, h1⟩, .int n, H', I'.tok _, ⟨_, rfl⟩, q⟩
    | next => exact False.elim hq
    | brk => exact False.elim hq
    | cont => exact False.elim hq
end

/-! ### enumerate(tuple) -/
set_option maxHeartbeats 1000000 in
theorem meets_enumerate_newT {v : Value} {o : Obj} {H : Heap → Prop} (B : Begins v o H) :
    Meets (Builtin.«enumerate.__new__» ⟨[.type "enumerate", v], []⟩) (fun _ R s => H s.heap ∧
      R (.ok (.ret (.ref (s.heap.push o).objs.size))) { s with heap := (s.heap.push o).push { cls := .type "enumerate", data := .fields #[.none, .bool false, .ref s.heap.objs.size, rawInt 0, .none, .none] } }) :=
  .of_wp fun prog w A R s h => by
    obtain ⟨hp, g, d, tk, os⟩ := s; obtain ⟨h1, h⟩ := h
    have hsub := sub_enumerate
    have q1 : ∀ {A' : Around} {E : Value → Shared → Prop} {Q : Value → Shared → Prop}, Q (.ref hp.objs.size) ⟨hp.push o, g, d, tk, os⟩ → wpAny (model prog w) A' (pyIter v) Q E ⟨hp, g, d, tk, os⟩ :=
      fun q => B.iter prog w _ _ ⟨hp, g, d, tk, os⟩ _ h1 q
    wp_walk using q1
    refine wpAny_stack_any fun st => wpAny_pure ?_
    split
    · rename_i c _ _ _ _ _
      cases (c == Value.type "enumerate")
      · wp_walk using q1
        exact ⟨_, rfl, h⟩
      · wp_walk using q1
        exact ⟨_, rfl, h⟩
    · wp_walk using q1
      exact ⟨_, rfl, h⟩
section
variable {prog : Program} {w : World} {A : Around} {E : Value → Shared → Prop} {s : Shared}
theorem enum_beginsT {v : Value} {o : Obj} {H : Heap → Prop} {Q : Value → Shared → Prop} (B : Begins v o H) (h1 : H s.heap)
    (h : ∀ h', IsEnum h' (s.heap.objs.size + 1) s.heap.objs.size 0 .none → h'.get? s.heap.objs.size = some o → h'.objs.size = s.heap.objs.size + 2 →
      (∀ b o, s.heap.get? b = some o → h'.get? b = some o) → Q (.ref (s.heap.objs.size + 1)) { s with heap := h' }) :
    wpAny (model prog w) A (call (.type "enumerate") [v]) Q E s := by
  refine callType_new F.called_enumerate (by decide) (F.typeCall_enumerate_1 _) (F.newCall_enumerate_1 _) (fun obj => F.args_object_init_2 obj _) F.entry_enumerate_new
    (meets_enumerate_newT B) ⟨h1, ?_⟩
  have hz : (s.heap.push o).objs.size = s.heap.objs.size + 1 := Heap.size_push ..
  show _ ∧ _
  rw [hz]
  have he : IsEnum ((s.heap.push o).push { cls := .type "enumerate", data := .fields #[.none, .bool false, .ref s.heap.objs.size, rawInt 0, .none, .none] }) (s.heap.objs.size + 1) s.heap.objs.size 0 .none := by
    have := Heap.get?_push_size (s.heap.push o) (o := { cls := .type "enumerate", data := .fields #[.none, .bool false, .ref s.heap.objs.size, rawInt 0, .none, .none] }) rfl
    rw [hz] at this; exact this
  refine ⟨⟨_, he, rfl⟩, h _ he (Heap.get?_push_of_some _ (Heap.get?_push_size _ B.free)) (by rw [Heap.size_push, hz]) fun b o x => Heap.get?_push_of_some _ (Heap.get?_push_of_some _ x)⟩
end
section
variable {prog : Program} {w : World} {A : Around} {E : Value → Shared → Prop} {s : Shared}
theorem enum_end_tuple {e it t : Addr} {i : Nat} {c : Int} {items : Array Value} {old : Value} {Q : Option Value → Shared → Prop} (hh : A.handled = none)
    (he : IsEnum s.heap e it c old) (hit : s.heap.IsTupleIter it t i) (hl : s.heap.IsTuple t items) (hx : items[i]? = none)
    (hQ : ∀ h', Heap.ExtBut it s.heap h' → Q none { s with heap := h' }) : wpAny (model prog w) A (pyNext (.ref e)) Q E s := by
  have hT : s.TypeIs (.ref e) "enumerate" := ⟨_, he, rfl⟩
  unfold pyNext
  refine wpAny_bind (wpAny_attempt (wpAny_callSpecial?_slot (name := Str.ofString "__next__") hT F.slot_enumerate_next
    (wpAny_call_entry F.slot_enumerate_next hT F.entry_enumerate_next ?_ (F.args_enumerate_next_1 _))))
  show wpAny _ _ (field (.ref e) 2 >>= _) _ _ _
  refine wpAny_bind (wpAny_field he rfl (x := .ref it) rfl ?_)
  refine wpAny_bind (wpAny_nextOf_tuple_end hh hit hl hx fun h' x he' hx' => ?_)
  obtain ⟨o, ho, hc⟩ := hx'
  refine wpAny_bind (wpAny_isInstance (T := "StopIteration") (b := true) ⟨o, ho, hc⟩ isSubtype_stop ?_)
  exact wpAny_pure (hQ _ he')
end
/-- the tuple at a, each item in a new pair -/
def Itet (K : PySem.W.Frag) (a : Addr) : It :=
  ⟨fun i H => ∃ (xs : List V) (x : V), SqT K H a xs ∧ xs[i]? = some x, fun i H v H' => ∃ T x, v = .ref T ∧ H T = none ∧ H' = upd H T (.tup [.int (i : Nat), x]) ∧ ∀ xs, SqT K H a xs → xs[i]? = some x, fun i H => ∃ xs : List V, SqT K H a xs ∧ xs.length ≤ i⟩
theorem turn_enumT {P : Program} {w : World} {K : PySem.W.Frag} {elts : List Expr} {kk : Nat} {tpos : Pos} (a e it : Addr) :
    Turn P w K (.Tuple elts kk tpos) (Itet K a) [e, it] e (fun i h => (∃ old, IsEnum h e it ((i : Nat) : Int) old) ∧ h.IsTupleIter it a i ∧ e ≠ it ∧ a ≠ it ∧ e ≠ a) where
  mem := by simp
  obj := fun i h st b hb => by
    obtain ⟨⟨old, he⟩, ⟨o, ho, hc, hd⟩, _⟩ := st
    have e' : b = e ∨ b = it := by simpa using hb
    rcases e' with z | z
    · rw [z]; exact ⟨_, he, fun v q => nomatch q⟩
    · rw [z]; exact ⟨o, ho, fun v q => by rw [hd] at q; cases q⟩
  keep := fun i h h' st k => let ⟨⟨old, he⟩, hi, hne⟩ := st; ⟨⟨old, k e (by simp) _ he⟩, hi.at fun o q => k it (by simp) o q, hne⟩
  item := by
    intro X hP hw hK hc i pins s σ H E I hf st hg
    subst hP hw hK
    obtain ⟨⟨old, he⟩, hit, hne, hai, hea⟩ := st
    obtain ⟨xs, x, hq, hx⟩ := hg
    obtain ⟨its, rv, p, hz⟩ := I.tuple hq
    have hlen := rv.length
    obtain ⟨u, hu, ru⟩ := rv.get hx
    have hil' : i < its.toArray.size := by
      have := (List.getElem?_eq_some_iff.mp hu).1
      simpa using this
    have hel : e < s.heap.objs.size := Heap.lt_size he
    have hil : it < s.heap.objs.size := by obtain ⟨_, q, _⟩ := hit; exact Heap.lt_size q
    refine wpAny_pyNext_enum_itemD (Draws.tuple (prog := X.prog) (w := X.w) (A := X.A.in1) (I.ok.hd hc) it a hai its.toArray) he ⟨hit, p⟩ hil' hne (by simp [hne, hea]) fun x' h' tk hP ho hs' hT hsz hk => ?_
    have hxu : x' = u := by
      have h1 : its.toArray[i]? = some u := by simpa using hu
      exact Option.some.inj (hP.symm.trans h1)
    subst hxu
    refine ⟨_, rfl, wpAny_letOwnedTupleGo_enum (s := { s with heap := h', toks := tk + 1 }) ho fun h'' he' sb => ?_⟩
    have hT2 : h''.get? s.heap.objs.size = some { cls := .type "tuple", data := .seq #[.int i tk, x'] } := (sb.2 _ (Nat.ne_of_gt hel)).trans hT
    have new : ObjOk X.prog X.w (upd H s.heap.objs.size (.tup [.int (i : Nat), x])) h'' s.heap.objs.size (.tup [.int (i : Nat), x]) :=
      ⟨by show 2 ≤ sizeLine; decide, [.int i tk, x'], .cons ⟨_, rfl⟩ (.cons ru .nil), ⟨_, hT2, rfl, _, rfl⟩⟩
    have I1 : Inv X pins σ (upd H s.heap.objs.size (.tup [.int (i : Nat), x])) { s with heap := h'', toks := tk + 1 } :=
      I.turnedNew (ch := [e, it]) (fun b ob hb q => (sb.2 b (fun z => hb (by simp [z]))).trans (hk b ob (fun z => hb (by simp [z])) (fun z => hb (by simp [z])) q)) hf (Nat.le_refl _) new
    refine ⟨.ref s.heap.objs.size, _, I1, rfl, ⟨_, x, rfl, I.hok.fresh (Nat.le_refl _), rfl, fun ys hy => by rw [I.tuple_inj hy hq]; exact hx⟩, ⟨⟨x', ?_⟩, hs'.1.at fun o q => (sb.2 it (Ne.symm hne)).trans q, hne, hai, hea⟩, fun b hb => ?_⟩
    · have e1 : ((i + 1 : Nat) : Int) = (i : Int) + 1 := by omega
      rw [e1]; exact he'
    · have hb' : b < s.heap.objs.size := by
        have e' : b = e ∨ b = it := by simpa using hb
        rcases e' with z | z
        · rw [z]; exact hel
        · rw [z]; exact hil
      rw [upd_ne (Nat.ne_of_lt hb')]
      exact (hf b hb).1
  done := by
    intro X hP hw hK hc i pins s σ H E I hf st hg
    subst hP hw hK
    obtain ⟨⟨old, he⟩, hit, hne, hai, hea⟩ := st
    obtain ⟨xs, hq, hx⟩ := hg
    obtain ⟨its, rv, p, hz⟩ := I.tuple hq
    obtain ⟨f0, f1, f2, f3, f4, f5⟩ := hf it (by simp)
    have hl := rv.length
    exact enum_end_tuple (I.ok.hd hc) he hit p (by simp; omega) fun h' eb => ⟨rfl, I.turned (t' := s.toks) (fun b o hb q => eb b o hb q) f0 f1 f3 f4 f5⟩
  self := fun A i s Q E st h => let ⟨⟨_, he⟩, _⟩ := st; wpAny_pyIter_enum he h
def iEnumT (K : PySem.W.Frag) (ta : TA) : TI := fun σ H R => ta σ H fun vs H1 => ∃ a xs, vs = [.ref a] ∧ SqT K H1 a xs ∧ R (Itet K a) H1
theorem pi_enumT {X : Cx} {e : Expr} {ta : TA} {p pos tpos : Pos} {elts : List Expr} {kk : Nat} (hg : Gl X "enumerate") (hm : X.mg "enumerate" = none) (ha : PA X [e] ta) (hs : starEach [e] X.env = [(false, eval e X.env)] := by rfl) :
    PI X (.Tuple elts kk tpos) (.Call (.Name "enumerate" p) [e] [] pos) (iEnumT X.K ta) := by
  refine ⟨fun pins s σ H R I h => ?_⟩
  refine Call_ (ld_blt I hg hm boot_enumerate (PyProof.Rows.callWith_type1 (thn (ha.run pos pins s σ H _ I h) fun us s1 ⟨vs, H1, I1, r1, q1⟩ => ?_) hs rfl))
  obtain ⟨a, xs, ex, hq, q⟩ := q1
  subst ex
  cases r1 with
  | cons r rr =>
    cases rr
    cases r
    obtain ⟨its, rv, p', hz⟩ := I1.tuple hq
    have hal : a < s1.heap.objs.size := by obtain ⟨o, ho, _⟩ := p'; exact Heap.lt_size ho
    refine enum_beginsT (begins_tuple a its.toArray) p' fun h' he hit hsz hk => wpAny_pyIter_enum he ?_
    have I2 : Inv X pins σ H1 { s1 with heap := h' } := I1.kept (t' := s1.toks) hk
    refine ⟨s1.heap.objs.size + 1, [s1.heap.objs.size + 1, s1.heap.objs.size], _, _, H1, rfl, I2, turn_enumT a (s1.heap.objs.size + 1) s1.heap.objs.size, ⟨⟨.none, he⟩, ⟨_, hit, rfl, rfl⟩, Nat.succ_ne_self _, Nat.ne_of_lt hal, Nat.ne_of_gt (Nat.lt_succ_of_lt hal)⟩, fun b hb => ?_, q⟩
    have e' : b = s1.heap.objs.size + 1 ∨ b = s1.heap.objs.size := by simpa using hb
    have hle : s1.heap.objs.size ≤ b := by
      rcases e' with z | z
      · rw [z]; exact Nat.le_add_right _ _
      · rw [z]; exact Nat.le_refl _
    exact I1.fpOk hle (I1.hok.fresh hle)
end Ba

set_option maxHeartbeats 4000000
/-! Short words of our own: a def with its promise (DefOk), a method, a class; frames. -/
namespace Ba
open PySem PySem.Spec PyProof.Rows L2
/-- a promise, as a thing that is not unfolded -/
structure Pr (φ : Sp) (vs : List V) (H : Hp) (Q : VK) (E : XK) : Prop where
  ok : φ vs H Q E
/-- the def that the module's name x stands for keeps sp, at level k; dvs: its defaults behind the written arguments -/
structure DefOk (P : Program) (w : World) (K : PySem.W.Frag) (mg : Str → Option Value) (base : Heap) (x : Str) (k : Nat) (ps : List Str) (dvs : List V) (sp : Sp) : Prop where
  ex : ∃ (f : Addr) (fd : FuncData) (ds : List Value), FnOk P w K mg base (L2N.CX P w) k f fd ps sp ∧ mg x = some (.ref f) ∧ PySem.W.keepIn K (.ref f) = true ∧ Binds K fd ps ds ∧ Vals dvs ds
structure MetOk (P : Program) (w : World) (K : PySem.W.Frag) (mg : Str → Option Value) (base : Heap) (C : Addr) (m : Str) (k : Nat) (ps : List Str) (dvs : List V) (sp : Sp) : Prop where
  ex : ∃ (f : Addr) (fd : FuncData) (ds : List Value), FnOk P w K mg base (L2N.CX P w) k f fd ps sp ∧ Meth K C m f ∧ Binds K fd ps ds ∧ Vals dvs ds
theorem DefOk.imp {P : Program} {w : World} {K : PySem.W.Frag} {mg : Str → Option Value} {base : Heap} {x : Str} {k : Nat} {ps : List Str} {dvs : List V} {sp sp' : Sp} (D : DefOk P w K mg base x k ps dvs sp) (h : ∀ vs H Q E, sp' vs H Q E → sp vs H Q E) : DefOk P w K mg base x k ps dvs sp' := by
  obtain ⟨f, fd, ds, F, r⟩ := D
  exact ⟨f, fd, ds, F.imp h, r⟩
/-- the class that the module's name x stands for; __init__ keeps sp -/
structure MkOk (P : Program) (w : World) (K : PySem.W.Frag) (mg : Str → Option Value) (base : Heap) (x : Str) (C : Addr) (k : Nat) (ps : List Str) (dvs : List V) (sp : Sp) : Prop where
  ex : ∃ (f : Addr) (fd : FuncData) (ds : List Value), FnOk P w K mg base (L2N.CX P w) k f fd ps sp ∧ Mk K C f ∧ mg x = some (.ref C) ∧ Binds K fd ps ds ∧ Vals dvs ds
section
variable {X : Cx} {k : Nat} {ps : List Str} {dvs : List V} {sp : Sp} {E : XK} {x m : Str} {p pos apos : Pos} {e o : Expr} {es : List Expr} {t : TA} {ta : TE} {C : Addr}
theorem pe_fn (D : DefOk X.prog X.w X.K X.mg X.base x k ps dvs sp) (hr : Room k X.A) (hx : Passes (L2N.CX X.prog X.w) X E) (hg : Gl X x) (ha : PA X (e :: es) t) (hdb : (x == ("__debug__" : Str)) = false := by decide)
    (he : starEach (e :: es) X.env = (false, eval e X.env) :: starEach es X.env := by rfl) (hpl : (backTo pos (starEach es X.env)).any (·.1) = false := by rfl) :
    PE X (.Call (.Name x p) (e :: es) [] pos) (tCall sp dvs E t) := by
  obtain ⟨f, fd, ds, F, hm, hk, hb, hd⟩ := D
  exact pe_call F hr hg hm hk hb hd hx ha hdb he hpl
theorem pe_met {pl : Sem Bool} (he : PE X o ta) (c : Cls X.K C) (D : MetOk X.prog X.w X.K X.mg X.base C m k ps dvs sp) (hr : Room k X.A) (hx : Passes (L2N.CX X.prog X.w) X E) (ha : PA X (e :: es) t)
    (hst : starEach (e :: es) X.env = (false, eval e X.env) :: starEach es X.env := by rfl) (hpl : (backTo pos (starEach es X.env)).any (·.1) = false := by rfl)
    (ht : eval (.Call (.Attribute o m apos) (e :: es) [] pos) X.env = (do
      let ov ← eval o X.env
      standAt apos.atName
      let (f, first) ← holding [ov] (getMethod ov m pl)
      callWith pos f first (backTo pos (starEach (e :: es) X.env)) (backToKw pos (keywordEach [] X.env))) := by rfl) :
    PE X (.Call (.Attribute o m apos) (e :: es) [] pos) (tMeth C m sp dvs E ta t) := by
  obtain ⟨f, fd, ds, F, hm, hb, hd⟩ := D
  exact pe_meth he c hm F hr hb hd hx ha hst hpl ht
theorem pe_met0 {pl : Sem Bool} (he : PE X o ta) (c : Cls X.K C) (D : MetOk X.prog X.w X.K X.mg X.base C m k ps dvs sp) (hr : Room k X.A) (hx : Passes (L2N.CX X.prog X.w) X E)
    (ht : eval (.Call (.Attribute o m apos) [] [] pos) X.env = (do
      let ov ← eval o X.env
      standAt apos.atName
      let (f, first) ← holding [ov] (getMethod ov m pl)
      callWith pos f first (backTo pos (starEach [] X.env)) (backToKw pos (keywordEach [] X.env))) := by rfl) :
    PE X (.Call (.Attribute o m apos) [] [] pos) (tMeth C m sp dvs E ta tNil) := by
  obtain ⟨f, fd, ds, F, hm, hb, hd⟩ := D
  exact pe_meth0 he c hm F hr hb hd hx ht
theorem pe_mk (D : MkOk X.prog X.w X.K X.mg X.base x C k ps dvs sp) (hr : Room (k + 1) X.A) (hx : Passes (L2N.CX X.prog X.w) X E) (hg : Gl X x) (ha : PA X (e :: es) t) (hdb : (x == ("__debug__" : Str)) = false := by decide)
    (he : starEach (e :: es) X.env = (false, eval e X.env) :: starEach es X.env := by rfl) (hpl : (backTo pos (starEach es X.env)).any (·.1) = false := by rfl) :
    PE X (.Call (.Name x p) (e :: es) [] pos) (tMake C sp dvs E t) := by
  obtain ⟨f, fd, ds, F, M, hm, hb, hd⟩ := D
  exact pe_make M F hr hg hm hb hd hx ha hdb he hpl
theorem pe_mk0 (D : MkOk X.prog X.w X.K X.mg X.base x C k ps dvs sp) (hr : Room (k + 1) X.A) (hx : Passes (L2N.CX X.prog X.w) X E) (hg : Gl X x) (hdb : (x == ("__debug__" : Str)) = false := by decide) :
    PE X (.Call (.Name x p) [] [] pos) (tMake C sp dvs E tNil) := by
  obtain ⟨f, fd, ds, F, M, hm, hb, hd⟩ := D
  exact pe_make0 M F hr hg hm hb hd hx hdb
end
theorem passLB {X : Cx} : Passes (L2N.CX X.prog X.w) X E0 := fun _ _ _ _ _ _ _ h => by
  obtain ⟨_, _, _, _, _, _, _, _, _, _, _, _, z⟩ := h
  exact z.elim
theorem takes0B {X : Cx} : L2N.Takes X (fun _ _ _ _ => False) := fun _ _ x => by
  obtain ⟨_, _, _, _, _, _, _, _, _, _, _, _, _, _, _, _, z⟩ := x
  exact z.elim
/-! ### the def of the text -/
abbrev FunS (K : PySem.W.Frag) (x qual : Str) (st : Stmt) (dvs : List V) (kws : List (Str × V)) (f : Addr) (fd : FuncData) : Prop := FunD K x qual (defArgs st) (defBody st) (defScope st) dvs kws f fd
section
variable {P : Program} {w : World} {K : PySem.W.Frag} {mg : Str → Option Value} {base : Heap} {x qual : Str} {st : Stmt} {f : Addr} {fd : FuncData} {ps N : List Str} {k : Nat} {sp : Sp}
/-- a def without defaults: from its body's reading -/
theorem defOk (F : FunS K x qual st [] [] f fd) (hm : mg x = some (.ref f)) (S : FnScope N ps (defScope st)) (hb : ∀ (kV doc pm : Value) (an : Option Addr) (cdv ct : Value) (us : List Value), us.length = ps.length → bindArgs (PySem.W.fnOf x qual (defArgs st) (defBody st) (defScope st) .none kV doc pm an cdv ct) ⟨us, []⟩ = pure (ps.zip us))
    (len : ∀ vs H Q E, sp vs H Q E → vs.length = ps.length)
    (hbody : ∀ (cdv : Value) (A : Around) (outer : List Env) (s : Shared) (H : Hp) (vs : List V) (Q : VK) (E : XK), Room k (A.deeper (envOfC qual (defScope st) s.heap.objs.size f cdv)) → sp vs H Q E →
      ∃ t, PSs (cxOf (L2N.CX P w) P w K mg base N qual (defScope st) f cdv A outer s H E) (defBody st) t ∧ t { nx := fun _ H' => Q .non H', rt := Q } (start N vs) H) :
    DefOk P w K mg base x (k + 1) ps [] sp :=
  ⟨f, fd, [], F.ok S len hbody, hm, F.kp, F.bindsN hb, .nil⟩
theorem takesB {cdv : Value} {A : Around} {outer : List Env} {s : Shared} {H : Hp} {E : XK} {scope : Scope} : L2N.Takes (cxOf (L2N.CX P w) P w K mg base N qual scope f cdv A outer s H E) (fun cls d _ H => E cls d H) := L2N.takes_of rfl rfl rfl rfl
theorem passB {cdv : Value} {A : Around} {outer : List Env} {s : Shared} {H : Hp} {E : XK} {scope : Scope} : Passes (L2N.CX P w) (cxOf (L2N.CX P w) P w K mg base N qual scope f cdv A outer s H E) E := L2N.passes_call takesB fun _ _ _ _ h => h
end
/-! ### frames -/
/-- no tuple, nor a known one -/
def NT (u : HO) : Prop := (∀ xs, u ≠ .tup xs) ∧ ∀ o xs, u ≠ .frz o (.tup xs)
/-- all but the objects at S is as it was; tuples stay -/
structure Kp (S : List Addr) (H H' : Hp) : Prop where
  keep : ∀ b o, H b = some o → b ∉ S → H' b = some o
  tup : TK H H'
  frz : ∀ b o xs, H b = some (.frz o (.tup xs)) → H' b = some (.frz o (.tup xs))
theorem Kp.refl {S : List Addr} (H : Hp) : Kp S H H := ⟨fun _ _ h _ => h, TK.refl H, fun _ _ _ h => h⟩
theorem Kp.trans {S : List Addr} {H H1 H2 : Hp} (a : Kp S H H1) (b : Kp S H1 H2) : Kp S H H2 := ⟨fun p o h n => b.keep p o (a.keep p o h n) n, a.tup.trans b.tup, fun p o xs h => b.frz p o xs (a.frz p o xs h)⟩
theorem Kp.new {S : List Addr} {H : Hp} {p : Addr} {o : HO} (h : H p = none) : Kp S H (upd H p o) := ⟨fun b u e _ => by rw [upd_ne (ne_of_none e h)]; exact e, TK.new h, fun b u xs e => by rw [upd_ne (ne_of_none e h)]; exact e⟩
theorem Kp.wr {S : List Addr} {H : Hp} {p : Addr} {o u : HO} (hs : p ∈ S) (h : H p = some u) (hn : NT u) : Kp S H (upd H p o) :=
  ⟨fun b v e n => by rw [upd_ne (show b ≠ p from fun z => n (by rw [z]; exact hs))]; exact e, fun b xs e => by rw [upd_ne (ne_of e h (fun z => hn.1 xs z.symm))]; exact e, fun b o xs e => by rw [upd_ne (ne_of e h (fun z => hn.2 o xs z.symm))]; exact e⟩
theorem Kp.mono {S S' : List Addr} {H H' : Hp} (a : Kp S H H') (h : ∀ b ∈ S, b ∈ S') : Kp S' H H' := ⟨fun p o e n => a.keep p o e (fun z => n (h p z)), a.tup, a.frz⟩
/-- what was made since does not count -/
theorem Kp.less {S S' : List Addr} {H H' : Hp} (a : Kp S H H') (h : ∀ b ∈ S, b ∈ S' ∨ H b = none) : Kp S' H H' :=
  ⟨fun p o e n => a.keep p o e (fun z => by rcases h p z with q | q; exact n q; rw [e] at q; cases q), a.tup, a.frz⟩
theorem Kp.same {H H' : Hp} (a : Kp [] H H') : Same H H' := fun b o e => a.keep b o e (by simp)
theorem Kp.of_same {S : List Addr} {H H' : Hp} (a : Same H H') : Kp S H H' := ⟨fun b o e _ => a b o e, fun b xs e => a b _ e, fun b _ _ e => a b _ e⟩
theorem Kp.free {H H' : Hp} (a : Kp [] H H') {p : Addr} (h : H' p = none) : H p = none := by
  cases e : H p with
  | none => rfl
  | some o => rw [a.keep p o e (by simp)] at h; cases h
theorem sqT_kp {K : PySem.W.Frag} {S : List Addr} {H H' : Hp} {a : Addr} {xs : List V} (k : Kp S H H') (h1 : SqT K H a xs) : SqT K H' a xs := by
  rcases h1 with (h1 | ⟨o, h1⟩) | h1
  · exact .inl (.inl (k.tup _ _ h1))
  · exact .inl (.inr ⟨o, k.frz _ _ _ h1⟩)
  · exact .inr h1
theorem Kp.at {S : List Addr} {H H' : Hp} (a : Kp S H H') {p : Addr} {o : HO} (h : H p = some o) (n : p ∉ S) : H' p = some o := a.keep p o h n
theorem sqL_kp {K : PySem.W.Frag} {S : List Addr} {H H' : Hp} {a : Addr} {xs : List V} (k : Kp S H H') (n : a ∉ S) (h : SqL K H a xs) : SqL K H' a xs := by
  rcases h with (h | ⟨o, h⟩) | h
  · exact .inl (.inl (k.keep _ _ h n))
  · exact .inl (.inr ⟨o, k.keep _ _ h n⟩)
  · exact .inr h
theorem sqT_tk {K : PySem.W.Frag} {H H' : Hp} {a : Addr} {xs : List V} (k : TK H H') (h : H a = some (.tup xs)) : SqT K H' a xs := SqT.of (k _ _ h)
theorem Tp.kp {S : List Addr} {H H' : Hp} {v : V} {d : PyData} (h : Tp H v d) (k : Kp S H H') : Tp H' v d := Tp.mono k.tup d v h
theorem TpAll.kp {S : List Addr} {H H' : Hp} {v : List V} {d : List PyData} (h : TpAll H v d) (k : Kp S H H') : TpAll H' v d := TpAll.mono k.tup d v h
theorem Tp.new {H : Hp} {v : V} {d : PyData} (h : Tp H v d) {p : Addr} {o : HO} (n : H p = none) : Tp (upd H p o) v d := Tp.mono (TK.new n) d v h
theorem TpAll.new {H : Hp} {v : List V} {d : List PyData} (h : TpAll H v d) {p : Addr} {o : HO} (n : H p = none) : TpAll (upd H p o) v d := TpAll.mono (TK.new n) d v h
end Ba

set_option maxHeartbeats 4000000
/-! More short words: walks, comprehensions that give data, constants of the module, exception classes. -/
namespace Ba
open PySem PySem.Spec PyProof.Rows L2
/-! ### slots of a comprehension's own names -/
theorem wipe_get {σ : L2.St} {i : Nat} : ∀ {vs : List Nat}, (wipe σ vs)[i]? = if i ∈ vs then (if i < σ.length then some none else none) else σ[i]?
  | [] => by simp [wipe]
  | v :: vs => by
    have ih := wipe_get (σ := σ) (i := i) (vs := vs)
    have hl := wipe_length σ vs
    show ((wipe σ vs).set v none)[i]? = _
    rw [List.getElem?_set, ih, hl]
    by_cases e : v = i
    · subst e
      simp
    · have e' : ¬ i = v := fun z => e z.symm
      simp [e, e']
theorem wipe_set {σ : L2.St} {i : Nat} {x : Option V} {vs : List Nat} (h : i ∈ vs) : wipe (σ.set i x) vs = wipe σ vs := by
  apply List.ext_getElem?
  intro j
  rw [wipe_get, wipe_get, List.length_set]
  by_cases e : j ∈ vs
  · simp [e]
  · have hij : i ≠ j := fun z => e (z ▸ h)
    simp [e, List.getElem?_set, hij]
theorem wipe_wipe {σ : L2.St} {vs : List Nat} : wipe (wipe σ vs) vs = wipe σ vs := by
  apply List.ext_getElem?
  intro j
  rw [wipe_get, wipe_length, wipe_get]
  by_cases e : j ∈ vs
  · simp [e]
  · simp [e]
theorem wipe1 {σ : L2.St} {vs : List Nat} {i : Nat} {x : Option V} (h : i ∈ vs) : wipe ((wipe σ vs).set i x) vs = wipe σ vs := by rw [wipe_set h, wipe_wipe]
theorem wipe2 {σ : L2.St} {vs : List Nat} {i j : Nat} {x y : Option V} (h : i ∈ vs ∧ j ∈ vs) : wipe (((wipe σ vs).set i x).set j y) vs = wipe σ vs := by rw [wipe_set h.2, wipe_set h.1, wipe_wipe]
theorem wipe3 {σ : L2.St} {vs : List Nat} {i j k : Nat} {x y z : Option V} (h : i ∈ vs ∧ j ∈ vs ∧ k ∈ vs) : wipe ((((wipe σ vs).set i x).set j y).set k z) vs = wipe σ vs := by rw [wipe_set h.2.2, wipe_set h.2.1, wipe_set h.1, wipe_wipe]
theorem wipe4 {σ : L2.St} {vs : List Nat} {i j k l : Nat} {x y z u : Option V} (h : i ∈ vs ∧ j ∈ vs ∧ k ∈ vs ∧ l ∈ vs) : wipe (((((wipe σ vs).set i x).set j y).set k z).set l u) vs = wipe σ vs := by rw [wipe_set h.2.2.2, wipe_set h.2.2.1, wipe_set h.2.1, wipe_set h.1, wipe_wipe]
theorem wipe5 {σ : L2.St} {vs : List Nat} {i j k l m : Nat} {x y z u t : Option V} (h : i ∈ vs ∧ j ∈ vs ∧ k ∈ vs ∧ l ∈ vs ∧ m ∈ vs) : wipe ((((((wipe σ vs).set i x).set j y).set k z).set l u).set m t) vs = wipe σ vs := by rw [wipe_set h.2.2.2.2, wipe_set h.2.2.2.1, wipe_set h.2.2.1, wipe_set h.2.1, wipe_set h.1, wipe_wipe]
/-! ### walks -/
theorem walk_enumT {K : PySem.W.Frag} {a : Addr} {xs : List V} : Walk (Itet K a) xs.length (fun H => SqT K H a xs) (YPair (fun i => some (.int (i : Nat))) (fun i => xs[i]?)) := by
  refine ⟨fun i _ hi q => ⟨xs, xs[i], q, by simp [hi]⟩, fun _ q => ⟨xs, q, Nat.le_refl _⟩, fun i H v H' _ q y => ?_⟩
  obtain ⟨T, x, h1, h2, h3, h4⟩ := y
  exact ⟨T, .int (i : Nat), x, h1, h2, h3, rfl, h4 xs q⟩
/-- within a comprehension whose turns only make objects: behind i turns; turn i gives the data f i (one, or none) -/
structure LcSt (n : Nat) (f : Nat → List PyData) (H1 : Hp) (D : Addr) (i : Nat) (H : Hp) : Prop where
  le : i ≤ n
  kp : Kp [] H1 H
  ac : ∃ acc, H D = some (.lst acc) ∧ acc.length ≤ i ∧ TpAll H acc ((List.range i).flatMap f)
theorem range_flat {β : Type} (f : Nat → List β) (i : Nat) : (List.range (i + 1)).flatMap f = (List.range i).flatMap f ++ f i := by
  rw [List.range_succ, List.flatMap_append]
  simp
theorem LcSt.fin {n : Nat} {f : Nat → List PyData} {H1 H H4 : Hp} {D : Addr} {i : Nat} {y : V} {d : PyData} (L : LcSt n f H1 D i H) (hn : n < 2000000) (hD : H1 D = none) (hi : i < n) (k : Kp [] H H4) (e : f i = [d]) (ty : Tp H4 y d) :
    ∃ acc, H4 D = some (.lst acc) ∧ acc.length < sizeLine ∧ LcSt n f H1 D (i + 1) (upd H4 D (.lst (acc ++ [y]))) := by
  obtain ⟨hin, kp, acc, hacc, hlen, hT⟩ := L
  have hsz : (2000000 : Nat) < sizeLine := by decide
  have hDs : H4 D = some (.lst acc) := k.keep _ _ hacc (by simp)
  have kw : Kp [D] H4 (upd H4 D (.lst (acc ++ [y]))) := Kp.wr (by simp) hDs ⟨fun _ z => (nomatch z), fun _ _ z => (nomatch z)⟩
  refine ⟨acc, hDs, by omega, hi, ?_, acc ++ [y], upd_same, by rw [List.length_append]; show acc.length + 1 ≤ i + 1; omega, ?_⟩
  · exact (((kp.trans k).mono (S' := [D]) (by simp)).trans kw).less (fun b hb => by
      have e : b = D := by simpa using hb
      rw [e]; exact .inr hD)
  · rw [range_flat, e]
    exact TpAll.append ((hT.kp k).kp kw) (.cons (ty.kp kw) .nil)
theorem LcSt.skip {n : Nat} {f : Nat → List PyData} {H1 H H4 : Hp} {D : Addr} {i : Nat} (L : LcSt n f H1 D i H) (hi : i < n) (k : Kp [] H H4) (e : f i = []) : LcSt n f H1 D (i + 1) H4 := by
  obtain ⟨hin, kp, acc, hacc, hlen, hT⟩ := L
  exact ⟨hi, kp.trans k, acc, k.keep _ _ hacc (by simp), by omega, by rw [range_flat, e, List.append_nil]; exact hT.kp k⟩
theorem lc_data {J : It} {n : Nat} {G : Hp → Prop} {Y : Nat → Hp → V → Hp → Prop} (w : Walk J n G Y) {g : TG} {tt : TT} {te : TE} {vs : List Nat} {σ : L2.St} {H1 : Hp} {D : Addr} {Qd : Hp → Prop} (f : Nat → List PyData)
    (hD : H1 D = none) (hG : ∀ H, Kp [] H1 H → G H)
    (hs : ∀ i x H H', i < n → LcSt n f H1 D i H → Y i H x H' → g x (wipe σ vs) H' fun σ2 H2 => wipe σ2 vs = wipe σ vs ∧ tt σ2 H2 fun b H3 =>
      if b = true then te σ2 H3 fun y H4 => ∃ acc, H4 D = some (.lst acc) ∧ acc.length < sizeLine ∧ LcSt n f H1 D (i + 1) (upd H4 D (.lst (acc ++ [y]))) else LcSt n f H1 D (i + 1) H3)
    (hd : ∀ H acc, Kp [] H1 H → H D = some (.lst acc) → acc.length ≤ n → TpAll H acc ((List.range n).flatMap f) → Qd H) :
    ∃ W : Nat → Nat → Hp → Prop, (∃ m, W 0 m (upd H1 D (.lst []))) ∧ ∀ i m H, W i m H →
      (J.stop i H ∧ Qd H) ∨ (J.go i H ∧ ∃ Nx : Hp → Prop, (∀ H', Nx H' → ∃ m', m' < m ∧ W (i + 1) m' H') ∧ ∀ x H', J.yld i H x H' → g x (wipe σ vs) H' fun σ2 H2 => wipe σ2 vs = wipe σ vs ∧ tt σ2 H2 fun b H3 =>
        if b = true then te σ2 H3 fun y H4 => ∃ acc, H4 D = some (.lst acc) ∧ acc.length < sizeLine ∧ Nx (upd H4 D (.lst (acc ++ [y]))) else Nx H3) :=
  lc_it w (fun i H => LcSt n f H1 D i H) ⟨Nat.zero_le _, Kp.new hD, [], upd_same, Nat.le_refl _, .nil⟩ (fun i H _ p => hG H p.kp) hs fun H L => by
    obtain ⟨_, k, acc, h1, h2, h3⟩ := L
    exact hd H acc k h1 h2 h3
theorem tpAll_bls {H : Hp} : ∀ {acc : List V} {bs : List Bool}, TpAll H acc (bs.map .bool) → acc = bs.map V.bl
  | _, [], h => by cases h; rfl
  | _, b :: bs, h => by
    cases h with
    | cons h1 h2 => cases h1; rw [tpAll_bls h2]; rfl
theorem tpAll_ints {H : Hp} : ∀ {acc : List V} {ns : List Int}, TpAll H acc (ns.map .int) → acc = ns.map V.int
  | _, [], h => by cases h; rfl
  | _, b :: bs, h => by
    cases h with
    | cons h1 h2 => cases h1; rw [tpAll_ints h2]; rfl
theorem tpAll_of_ints {H : Hp} : ∀ {ns : List Int}, TpAll H (ns.map V.int) (ns.map .int)
  | [] => .nil
  | n :: ns => .cons (.int n) tpAll_of_ints
/-- the i-th turn of a walk over data that gives one datum each -/
theorem flatMap_one {α β : Type} (l : List α) (f : Nat → List β) (g : α → β) (h : ∀ i x, l[i]? = some x → f i = [g x]) : (List.range l.length).flatMap f = l.map g := by
  induction l generalizing f with
  | nil => rfl
  | cons a l ih =>
    rw [List.length_cons, List.range_succ_eq_map, List.flatMap_cons, List.flatMap_map, List.map_cons, h 0 a rfl]
    show g a :: (List.range l.length).flatMap (fun i => f (i + 1)) = _
    rw [ih (fun i => f (i + 1)) (fun i x e => h (i + 1) x (by simpa using e))]
theorem flatMap_some {α β : Type} (l : List α) (f : Nat → List β) (g : α → List β) (h : ∀ i x, l[i]? = some x → f i = g x) : (List.range l.length).flatMap f = l.flatMap g := by
  induction l generalizing f with
  | nil => rfl
  | cons a l ih =>
    rw [List.length_cons, List.range_succ_eq_map, List.flatMap_cons, List.flatMap_map, List.flatMap_cons, h 0 a rfl]
    show g a ++ (List.range l.length).flatMap (fun i => f (i + 1)) = _
    rw [ih (fun i => f (i + 1)) (fun i x e => h (i + 1) x (by simpa using e))]
theorem iteT' {b : Bool} {A B : Prop} (hb : b = true) (h : A) : if b = true then A else B := by rw [hb]; exact h
theorem iteF' {b : Bool} {A B : Prop} (hb : b = false) (h : B) : if b = true then A else B := by rw [hb]; exact h
/-! ### constants of the module -/
section
variable {X : Cx} {x : Str} {pos : Pos}
theorem pe_gint {i : Int} (hg : Gl X x) (hm : ∃ t, X.mg x = some (.int i t)) (hd : (x == ("__debug__" : Str)) = false := by decide) : PE X (.Name x pos) (tC (.int i)) := by
  obtain ⟨t, h⟩ := hm
  exact pe_glob hg h ⟨t, rfl⟩ hd
theorem pe_gstr {z : Str} (hg : Gl X x) (hm : ∃ t, X.mg x = some (.str z t)) (hd : (x == ("__debug__" : Str)) = false := by decide) : PE X (.Name x pos) (tC (.str z)) := by
  obtain ⟨t, h⟩ := hm
  exact pe_glob hg h ⟨t, rfl⟩ hd
end
/-- no own exception __init__: a class of the text over ValueError -/
structure ExcOk (K : PySem.W.Frag) (mg : Str → Option Value) (nm : Str) (C : Addr) : Prop where
  x : PySem.W.excIn K C [.type "ValueError", .type "Exception", .type "BaseException", .type "object"] "ValueError.__new__" = true
  g : mg nm = some (.ref C)
  k : PySem.W.keepIn K (.ref C) = true
  e : PySem.W.subIn K (.ref C) (.type "BaseException") = some true
  t : PySem.W.typeIn K (.ref C) = some (.type "type")
/-- the built-in names that the module does not bind -/
structure Bi (mg : Str → Option Value) : Prop where
  isinstance : mg "isinstance" = none
  len : mg "len" = none
  max : mg "max" = none
  min : mg "min" = none
  sorted : mg "sorted" = none
  all : mg "all" = none
  divmod : mg "divmod" = none
  sum : mg "sum" = none
  int : mg "int" = none
  bool : mg "bool" = none
  tuple : mg "tuple" = none
  str : mg "str" = none
  list : mg "list" = none
  dict : mg "dict" = none
  range : mg "range" = none
  enumerate : mg "enumerate" = none
  zip : mg "zip" = none
  repr : mg "repr" = none
structure TTab (mg : Str → Option Value) : Prop where
  MOST_HOURS : ∃ t, mg "MOST_HOURS" = some (.int 1000 t)
  MOST_SHIPS : ∃ t, mg "MOST_SHIPS" = some (.int 24 t)
  MOST_STAY : ∃ t, mg "MOST_STAY" = some (.int 10000 t)
  MOST_PEAK : ∃ t, mg "MOST_PEAK" = some (.int 60 t)
  DEPARTURE : ∃ t, mg "DEPARTURE" = some (.int 0 t)
  ARRIVAL : ∃ t, mg "ARRIVAL" = some (.int 1 t)
end Ba

set_option maxHeartbeats 400000
/-! Dicts of data: pairs (int key, datum); copies; locked dicts. -/
namespace Ba
open PySem PySem.Spec PyProof.Rows L2
section
variable {α : Type}
/-- the dict's pairs read as ss, by key and datum -/
inductive DvAt (H : Hp) (key : α → Int) (enc : α → PyData) : List (Key × V) → List α → Prop
  | nil : DvAt H key enc [] []
  | cons {v : V} {s : α} {kvs : List (Key × V)} {ss : List α} : Tp H v (enc s) → DvAt H key enc kvs ss → DvAt H key enc ((.inl (key s), v) :: kvs) (s :: ss)
variable {H H' : Hp} {key : α → Int} {enc : α → PyData}
theorem DvAt.tk (k : TK H H') : ∀ {kvs : List (Key × V)} {ss : List α}, DvAt H key enc kvs ss → DvAt H' key enc kvs ss
  | _, _, .nil => .nil
  | _, _, .cons h t => .cons (Tp.mono k _ _ h) (t.tk k)
theorem DvAt.len : ∀ {kvs : List (Key × V)} {ss : List α}, DvAt H key enc kvs ss → kvs.length = ss.length
  | _, _, .nil => rfl
  | _, _, .cons h t => by rw [List.length_cons, List.length_cons, t.len]
theorem DvAt.app : ∀ {kvs ls : List (Key × V)} {ss ts : List α}, DvAt H key enc kvs ss → DvAt H key enc ls ts → DvAt H key enc (kvs ++ ls) (ss ++ ts)
  | _, _, _, _, .nil, s => s
  | _, _, _, _, .cons h t, s => .cons h (t.app s)
theorem DvAt.at : ∀ {kvs : List (Key × V)} {ss : List α} {i : Nat} {k : Key} {v : V}, DvAt H key enc kvs ss → kvs[i]? = some (k, v) → ∃ s, ss[i]? = some s ∧ k = .inl (key s) ∧ Tp H v (enc s)
  | _, _, _, _, _, .nil, e => by simp at e
  | _, _, 0, _, _, .cons h _, e => by simp at e; obtain ⟨rfl, rfl⟩ := e; exact ⟨_, rfl, rfl, h⟩
  | _, _, i + 1, _, _, .cons _ t, e => by
    obtain ⟨s, h1, h2⟩ := t.at (i := i) (by simpa using e)
    exact ⟨s, by simpa using h1, h2⟩
theorem DvAt.keys : ∀ {kvs : List (Key × V)} {ss : List α}, DvAt H key enc kvs ss → kvs.map (·.1) = ss.map fun s => Sum.inl (key s)
  | _, _, .nil => rfl
  | _, _, .cons h t => by rw [List.map_cons, List.map_cons, t.keys]
theorem DvAt.drop : ∀ {kvs : List (Key × V)} {ss : List α} (b : Int), DvAt H key enc kvs ss → DvAt H key enc (dropK kvs (.inl b)) (ss.filter fun s => decide (key s ≠ b))
  | _, _, _, .nil => .nil
  | _, _, b, .cons (v := v) (s := s) (kvs := kvs) (ss := ss) h t => by
    by_cases e : key s = b
    · rw [show dropK ((Sum.inl (key s), v) :: kvs) (Sum.inl b) = dropK kvs (Sum.inl b) by simp [dropK, e], show (s :: ss).filter (fun s => decide (key s ≠ b)) = ss.filter (fun s => decide (key s ≠ b)) by simp [e]]
      exact t.drop b
    · rw [show dropK ((Sum.inl (key s), v) :: kvs) (Sum.inl b) = (Sum.inl (key s), v) :: dropK kvs (Sum.inl b) by simp [dropK, e], show (s :: ss).filter (fun s => decide (key s ≠ b)) = s :: ss.filter (fun s => decide (key s ≠ b)) by simp [e]]
      exact .cons h (t.drop b)
theorem DvAt.val : ∀ {kvs : List (Key × V)} {ss : List α} (b : Int), DvAt H key enc kvs ss → (valV kvs (.inl b)).isSome = (ss.any fun s => decide (key s = b))
  | _, _, _, .nil => rfl
  | _, _, b, .cons (v := v) (s := s) (kvs := kvs) (ss := ss) h t => by
    by_cases e : key s = b
    · rw [valV_pos (by rw [e])]; simp [e]
    · rw [valV_neg (fun z => e (by injection z)), t.val b]; simp [e]
theorem DvAt.valAt : ∀ {kvs : List (Key × V)} {ss : List α} {s : α}, DvAt H key enc kvs ss → s ∈ ss → (ss.map key).Nodup → ∃ v, valV kvs (.inl (key s)) = some v ∧ Tp H v (enc s)
  | _, _, _, .nil, m, _ => by simp at m
  | _, _, s, .cons (v := v) (s := s0) (kvs := kvs) (ss := ss) h t, m, nd => by
    rw [List.map_cons, List.nodup_cons] at nd
    by_cases e : key s0 = key s
    · rcases List.mem_cons.mp m with rfl | m
      · exact ⟨v, valV_pos rfl, h⟩
      · exact absurd (List.mem_map.mpr ⟨s, m, e.symm⟩) nd.1
    · rcases List.mem_cons.mp m with rfl | m
      · exact absurd rfl e
      · obtain ⟨u, h1, h2⟩ := t.valAt m nd.2
        exact ⟨u, by rw [valV_neg (fun z => e (by injection z))]; exact h1, h2⟩
theorem DvAt.put {kvs : List (Key × V)} {ss : List α} {s : α} {v : V} (h : DvAt H key enc kvs ss) (n : (ss.any fun x => decide (key x = key s)) = false) (t : Tp H v (enc s)) : DvAt H key enc (putK kvs (.inl (key s)) v) (ss ++ [s]) := by
  rw [putK_new v (by have := h.val (key s); rw [n] at this; cases e : valV kvs (Sum.inl (key s)) with | none => rfl | some u => rw [e] at this; cases this)]
  exact h.app (.cons t .nil)
end
/-- keys only: the values are any -/
structure KeysAt (kvs : List (Key × V)) (ns : List Int) : Prop where
  eq : kvs.map (·.1) = ns.map Sum.inl
theorem KeysAt.val {kvs : List (Key × V)} {ns : List Int} (b : Int) (h : KeysAt kvs ns) : (valV kvs (.inl b)).isSome = (ns.any fun s => decide (s = b)) := by
  rw [← valV_any]
  have h1 : (kvs.any fun kv => decide (kv.1 = Sum.inl b)) = (kvs.map (·.1)).any (fun k => decide (k = Sum.inl b)) := by rw [List.any_map]; rfl
  rw [h1, h.eq, List.any_map]
  congr 1
  funext s
  show decide ((Sum.inl s : Key) = Sum.inl b) = decide (s = b)
  by_cases e : s = b
  · rw [e]; simp
  · rw [decide_eq_false e, decide_eq_false (fun z => e (by injection z))]
def putN (ns : List Int) (b : Int) : List Int := if (ns.any fun s => decide (s = b)) = true then ns else ns ++ [b]
theorem KeysAt.put {kvs : List (Key × V)} {ns : List Int} (b : Int) (v : V) (h : KeysAt kvs ns) : KeysAt (putK kvs (.inl b) v) (putN ns b) := by
  refine ⟨?_⟩
  have e := h.val b
  rw [← valV_any] at e
  unfold putK putN
  rw [e]
  split
  · rw [List.map_map, ← h.eq]
    refine List.map_congr_left fun kv _ => ?_
    show (if kv.1 = Sum.inl b then (kv.1, v) else kv).1 = kv.1
    split <;> rfl
  · rw [List.map_append, h.eq, List.map_append]
    rfl
theorem KeysAt.len {kvs : List (Key × V)} {ns : List Int} (h : KeysAt kvs ns) : kvs.length = ns.length := by
  have := congrArg List.length h.eq
  rwa [List.length_map, List.length_map] at this
/-! ### dict(d) -/
section
variable {X : Cx}
theorem call_dictC : CallR X (.type "dict") (fun xs H Q => ∃ (a : Addr) (kvs : List (Key × V)), xs = [.ref a] ∧ H a = some (.dK kvs) ∧ ∀ p, H p = none → Q (.ref p) (upd H p (.dK kvs))) := by
  intro pins s σ H xs us Q I r q
  obtain ⟨a, kvs, rfl, e, q⟩ := q
  obtain rfl := Vals.ref1 r
  exact d_copyOf I (.inl e) fun p s' hp I' => ⟨.ref p, _, I', rfl, q p hp⟩
end
/-! ### locked -/
theorem tk_frz {H : Hp} {d : Addr} {o : Obj} {u : HO} (h : H d = some u) (hn : NT u) : TK H (upd H d (.frz o u)) := fun a xs e => by
  rw [upd_ne (ne_of e h (fun z => hn.1 xs z.symm))]; exact e
theorem kp_unlock {H H4 : Hp} {d : Addr} {o : Obj} {u : HO} (h : H d = some u) (hn : NT u) (k : Kp [] (upd H d (.frz o u)) H4) : Kp [] H (upd H4 d u) := by
  refine ⟨fun b v e _ => ?_, fun b xs e => ?_, fun b o xs e => ?_⟩
  · by_cases z : b = d
    · subst z
      rw [upd_same, ← h, e]
    · rw [upd_ne z]
      exact k.keep b v (by rw [upd_ne z]; exact e) (by simp)
  · have z := ne_of e h (fun z => hn.1 xs z.symm)
    rw [upd_ne z]
    exact k.tup b xs (by rw [upd_ne z]; exact e)
  · have z := ne_of e h (fun z => hn.2 o xs z.symm)
    rw [upd_ne z]
    exact k.frz b o xs (by rw [upd_ne z]; exact e)
/-- the pairs of a locked dict, each a new tuple -/
theorem walk_items {d : Addr} {o : Obj} {kvs : List (Key × V)} : Walk (Iti d o kvs) kvs.length (fun H => H d = some (.frz o (.dK kvs))) (fun i H v H' => ∃ T k x, kvs[i]? = some (k, x) ∧ v = .ref T ∧ H T = none ∧ H' = upd H T (.tup [kV k, x])) :=
  ⟨fun i H hi g => ⟨g, hi⟩, fun H g => ⟨g, Nat.le_refl _⟩, fun i H x H' _ _ y => y⟩
/-! ### an own exception with its own __init__ -/
structure OMk (P : Program) (w : World) (K : PySem.W.Frag) (mg : Str → Option Value) (base : Heap) (x : Str) (C : Addr) (k : Nat) (ps : List Str) (sp : Sp) : Prop where
  T : OexC K C
  ex : ∃ (f : Addr) (fd : FuncData), PySem.W.findIn K (.ref C) "__init__" = some (some (.ref f)) ∧ PySem.W.typeIn K (.ref f) = some (.type "function") ∧ FnOk P w K mg base (L2N.CX P w) k f fd ps sp ∧ Binds K fd ps [] ∧ mg x = some (.ref C)
section
variable {X : Cx} {k : Nat} {ps : List Str} {sp : Sp} {x : Str} {C : Addr} {p pos : Pos} {e : Expr} {es : List Expr} {ta : TA}
end
end Ba
namespace Ba
open PySem PySem.Spec PyProof.Rows L2
/-- within a dict comprehension whose turns only make objects -/
structure DcSt (R : Nat → Hp → List (Key × V) → Prop) (H1 : Hp) (D : Addr) (i : Nat) (H : Hp) : Prop where
  kp : Kp [] H1 H
  ac : ∃ kvs, H D = some (.dK kvs) ∧ kvs.length ≤ i ∧ R i H kvs
theorem DcSt.fin {R : Nat → Hp → List (Key × V) → Prop} {H1 H H5 : Hp} {D : Addr} {i : Nat} {k : Key} {y z : V} (L : DcSt R H1 D i H) (hD : H1 D = none) (hi : i < 2000000) (kk : Kp [] H H5) (hy : y = kV k)
    (hR : ∀ kvs H6, R i H kvs → TK H5 H6 → R (i + 1) H6 (putK kvs k z)) :
    ∃ kvs k, y = kV k ∧ H5 D = some (.dK kvs) ∧ kvs.length < sizeLine ∧ DcSt R H1 D (i + 1) (upd H5 D (.dK (putK kvs k z))) := by
  obtain ⟨kp, kvs, hk, hl, r⟩ := L
  have hsz : (2000000 : Nat) < sizeLine := by decide
  have hDs : H5 D = some (.dK kvs) := kk.keep _ _ hk (by simp)
  have kw : Kp [D] H5 (upd H5 D (.dK (putK kvs k z))) := Kp.wr (by simp) hDs ⟨fun _ z => (nomatch z), fun _ _ z => (nomatch z)⟩
  refine ⟨kvs, k, hy, hDs, by omega, ?_, _, upd_same, Nat.le_trans (length_putK kvs k z) (by omega), hR _ _ r kw.tup⟩
  exact (((kp.trans kk).mono (S' := [D]) (by simp)).trans kw).less (fun b hb => by
    have e : b = D := by simpa using hb
    rw [e]; exact .inr hD)
theorem dc_data {K : PySem.W.Frag} {a : Addr} {xs : List V} {g : TG} {tt : TT} {tk tv : TE} {vs : List Nat} {σ : L2.St} {H1 : Hp} {D : Addr} {Qd : Hp → Prop} (R : Nat → Hp → List (Key × V) → Prop) (hD : H1 D = none) (ha : SqT K H1 a xs)
    (h0 : R 0 (upd H1 D (.dK [])) []) (hG : ∀ H, Kp [] H1 H → SqT K H a xs)
    (hs : ∀ i x H, xs[i]? = some x → DcSt R H1 D i H → g x (wipe σ vs) H fun σ2 H2 => wipe σ2 vs = wipe σ vs ∧ tt σ2 H2 fun b H3 =>
      if b = true then tk σ2 H3 fun y H4 => tv σ2 H4 fun z H5 => ∃ kvs k, y = kV k ∧ H5 D = some (.dK kvs) ∧ kvs.length < sizeLine ∧ DcSt R H1 D (i + 1) (upd H5 D (.dK (putK kvs k z))) else DcSt R H1 D (i + 1) H3)
    (hd : ∀ H kvs, Kp [] H1 H → H D = some (.dK kvs) → R xs.length H kvs → Qd H) :
    ∃ W : Nat → Nat → Hp → Prop, (∃ m, W 0 m (upd H1 D (.dK []))) ∧ ∀ i m H, W i m H →
      ((Itt K a).stop i H ∧ Qd H) ∨ ((Itt K a).go i H ∧ ∃ Nx : Hp → Prop, (∀ H', Nx H' → ∃ m', m' < m ∧ W (i + 1) m' H') ∧ ∀ x H', (Itt K a).yld i H x H' → g x (wipe σ vs) H' fun σ2 H2 => wipe σ2 vs = wipe σ vs ∧ tt σ2 H2 fun b H3 =>
        if b = true then tk σ2 H3 fun y H4 => tv σ2 H4 fun z H5 => ∃ kvs k, y = kV k ∧ H5 D = some (.dK kvs) ∧ kvs.length < sizeLine ∧ Nx (upd H5 D (.dK (putK kvs k z))) else Nx H3) :=
  dc_tup (fun i H => DcSt R H1 D i H) ⟨Kp.new hD, [], upd_same, Nat.le_refl _, h0⟩ (fun i H _ L => hG H L.kp) hs (fun H L => by
    obtain ⟨kp, kvs, h1, h2, h3⟩ := L
    exact hd H kvs kp h1 h3)
end Ba
namespace Ba
open PySem PySem.Spec PyProof.Rows L2
theorem Kp.put {S : List Addr} {H H1 : Hp} {p : Addr} {o u : HO} (k : Kp S H H1) (hs : p ∈ S) (h : H1 p = some u) (hn : NT u) : Kp S H (upd H1 p o) := k.trans (Kp.wr hs h hn)
theorem ins_nt {C dx : Addr} {fs : List (Str × V)} : NT (.ins C dx fs) := ⟨fun _ z => (nomatch z), fun _ _ z => (nomatch z)⟩
theorem lst_nt {l : List V} : NT (.lst l) := ⟨fun _ z => (nomatch z), fun _ _ z => (nomatch z)⟩
theorem dK_nt {l : List (Key × V)} : NT (.dK l) := ⟨fun _ z => (nomatch z), fun _ _ z => (nomatch z)⟩
theorem Kp.freeS {S : List Addr} {H H' : Hp} (a : Kp S H H') {p : Addr} (h : H' p = none) (n : p ∉ S) : H p = none := by
  cases e : H p with
  | none => rfl
  | some o => rw [a.keep p o e n] at h; cases h
end Ba
namespace Ba
open PySem PySem.Spec PyProof.Rows L2
theorem nd_take {α : Type} (f : α → Int) {l : List α} (nd : (l.map f).Nodup) {i : Nat} {b : α} (h : l[i]? = some b) : ∀ x ∈ l.take i, f x ≠ f b := by
  intro x hx e
  obtain ⟨hi, hb⟩ := List.getElem?_eq_some_iff.mp h
  have hs : l = l.take i ++ b :: l.drop (i + 1) := by
    rw [← hb, ← List.drop_eq_getElem_cons hi, List.take_append_drop]
  rw [hs, List.map_append, List.map_cons, List.nodup_append] at nd
  exact nd.2.2 (f x) (List.mem_map.mpr ⟨x, hx, rfl⟩) (f b) (by simp) e
end Ba
namespace Ba
theorem nd_inj {α β : Type} (f : α → β) {l : List α} (nd : (l.map f).Nodup) {x y : α} (hx : x ∈ l) (hy : y ∈ l) (e : f x = f y) : x = y := by
  induction l with
  | nil => simp at hx
  | cons a l ih =>
    rw [List.map_cons, List.nodup_cons] at nd
    rcases List.mem_cons.mp hx with e1 | h1
    · rcases List.mem_cons.mp hy with e2 | h2
      · rw [e1, e2]
      · exact absurd (List.mem_map.mpr ⟨y, h2, by rw [← e, e1]⟩) nd.1
    · rcases List.mem_cons.mp hy with e2 | h2
      · exact absurd (List.mem_map.mpr ⟨x, h1, by rw [e, e2]⟩) nd.1
      · exact ih nd.2 h1 h2
end Ba
namespace Ba
open PySem PySem.Spec PyProof.Rows L2
theorem pe_fldB {X : Cx} {e : Expr} {ta : TE} {f : Str} {pos : Pos} {K : PySem.W.Frag} (hK : X.K = K) (he : PE X e ta) (hb : attributeBase e f X.env (eval e X.env) = eval e X.env) : PE X (.Attribute e f pos) (tFld K ta f) := by
  subst hK
  exact pe_fld he hb
end Ba

set_option maxHeartbeats 400000
/-! An attribute as a target among others; a class with a keyword-only parameter. -/
namespace Ba
open PySem PySem.Spec PyProof.Rows L2
section
variable {X : Cx}
def gFld (K : PySem.W.Frag) (to : TE) (f : Str) : TG := fun v σ H Q => to σ H fun x H1 => ∃ a C dx fs, x = .ref a ∧ H1 a = some (.ins C dx fs) ∧ Cls K C ∧ NoAttr K C f ∧ fs.length < 1000 ∧ Q σ (upd H1 a (.ins C dx (putF f v fs)))
theorem pg_fld {o : Expr} {to : TE} {f : Str} {pos : Pos} (ho : PE X o to) : PG X (.Attribute o f pos) (gFld X.K to f) := by
  refine ⟨fun pins s σ H v u Q I r h => ?_⟩
  rw [assign_Attribute]
  refine wpAny_bind (wpAny_holding (thn (ho.run pins s σ H _ I h) fun ov s1 ⟨x, H1, I1, r1, a, C, dx, fs, ex, ea, c, n, l, q1⟩ => ?_))
  subst ex
  obtain rfl : ov = Value.ref a := r1
  refine wpAny_bind (wpAny_standAt (wpAny_bind (wpAny_holding (setattr_ok I1 ea c n l r fun s3 I3 => ?_))))
  exact wpAny_release ⟨σ, _, I3, q1⟩
end
/-- the class x stands for, __init__ taking n positional values and the keywords ks -/
structure MkKOk (P : Program) (w : World) (K : PySem.W.Frag) (mg : Str → Option Value) (base : Heap) (x : Str) (C : Addr) (k : Nat) (ps : List Str) (n : Nat) (ks : List Str) (gV : List V → List V → List V) (sp : Sp) : Prop where
  ex : ∃ (f : Addr) (fd : FuncData) (g : List Value → List Value → List Value), FnOk P w K mg base (L2N.CX P w) k f fd ps sp ∧ Mk K C f ∧ mg x = some (.ref C) ∧ KBn K fd ps (n + 1) ks g gV
section
variable {X : Cx} {k n : Nat} {ps ks : List Str} {gV : List V → List V → List V} {sp : Sp} {E : XK} {x : Str} {p pos : Pos} {e : Expr} {es : List Expr} {kws : List Keyword} {t tk : TA} {C : Addr}
theorem pe_mkK (D : MkKOk X.prog X.w X.K X.mg X.base x C k ps n ks gV sp) (hr : Room (k + 1) X.A) (hx : Passes (L2N.CX X.prog X.w) X E) (hg : Gl X x) (ha : PA X (e :: es) t) (hkw : PK X kws tk)
    (hall : (backToKw pos (keywordEach kws X.env)).all (·.1.isSome) = true := by rfl) (hks : (backToKw pos (keywordEach kws X.env)).filterMap (·.1) = ks := by rfl) (hdb : (x == ("__debug__" : Str)) = false := by decide)
    (he : starEach (e :: es) X.env = (false, eval e X.env) :: starEach es X.env := by rfl) (hpl : ((backTo pos (starEach (e :: es) X.env)).any (·.1) || (backToKw pos (keywordEach kws X.env)).any (·.1.isNone)) = false := by rfl) :
    PE X (.Call (.Name x p) (e :: es) kws pos) (tMakeK C n ks.length sp gV E t tk) := by
  obtain ⟨f, fd, g, F, M, hm, hb⟩ := D
  exact pe_makeK M F hr hg hm hb hx ha hkw hall hks hdb he hpl
end
end Ba
namespace Ba
open PySem PySem.Spec PyProof.Rows L2
/-! ### tuples whose object is known; dict(tuple) -/
section
variable {X : Cx}
def tTupF (t : TA) : TE := fun σ H Q => t σ H fun xs H1 => xs.length ≤ sizeLine ∧ ∀ p o, H1 p = none → o.dict = none → o.cls = .type "tuple" → Q (.ref p) (upd H1 p (.frz o (.tup xs)))
theorem pe_tupF {es : List Expr} {t : TA} {pos : Pos} {x1} (h : PA X es t) : PE X (.Tuple es x1 pos) (tTupF t) := by
  refine ⟨fun pins s σ H Q I hq => ?_⟩
  refine wpAny_Tuple_spliced (thn (h.run pos pins s σ H _ I hq) fun us s1 ⟨xs, H1, I1, r, z, q⟩ => ⟨by rw [← r.length]; exact z, ?_⟩)
  have hf : H1 s1.heap.objs.size = none := I1.hok.fresh (Nat.le_refl _)
  refine ⟨.ref s1.heap.objs.size, upd H1 s1.heap.objs.size (.frz { cls := .type "tuple", data := .seq us.toArray } (.tup xs)), I1.laid (t' := s1.toks) (fun b u e => Heap.get?_push_of_some _ e) (Nat.le_refl _) ?_, rfl, q _ _ hf rfl rfl⟩
  exact ⟨Heap.get?_push_size _ rfl, z, us, r, ⟨_, Heap.get?_push_size _ rfl, rfl, _, rfl⟩⟩
theorem call_tupleF : CallR X (.type "tuple") (fun xs H Q => ∃ p ys, xs = [.ref p] ∧ SqL X.K H p ys ∧ ∀ l o, H l = none → o.dict = none → o.cls = .type "tuple" → Q (.ref l) (upd H l (.frz o (.tup ys)))) := by
  intro pins s σ H xs us Q I r h
  obtain ⟨p, ys, rfl, hq, q⟩ := h
  obtain ⟨u, rfl, rx⟩ := vals1 r
  cases rx
  obtain ⟨its, r', pl, hz⟩ := I.list hq
  have hlen := r'.length
  refine call_tuple_list pl.isList (fun h' kp => ?_) (by simp only [List.size_toArray] <;> omega)
  have I1 : Inv X pins σ H { s with heap := h' } := I.kept (t' := s.toks) kp
  have I2 : Inv X pins σ (upd H h'.objs.size (.frz { cls := .type "tuple", data := .seq its.toArray } (.tup ys))) { s with heap := h'.push { cls := .type "tuple", data := .seq its.toArray } } :=
    I1.laid (t' := s.toks) (fun b o e => Heap.get?_push_of_some _ e) (Nat.le_refl _) (show ObjOk X.prog X.w _ _ _ (.frz _ (.tup ys)) from ⟨Heap.get?_push_size _ rfl, hz, its, r', IsTup.new _ _⟩)
  exact ⟨.ref h'.objs.size, _, I2, rfl, q _ _ (I1.hok.fresh (Nat.le_refl _)) rfl rfl⟩
theorem pairs_of2 {pins : List (Addr × Obj)} {σ : L2.St} {H : Hp} {s : Shared} (I : Inv X pins σ H s) : ∀ {ps : List Addr} {kvs : List (Key × V)}, Paired (fun p kv => SqT X.K H p [kV kv.1, kv.2]) ps kvs →
    ∃ (prs : List (Key × Value)) (pvs : List (Value × Value)), KV kvs prs ∧ prs.length = ps.length ∧ pvs.length = ps.length ∧ ∀ (j : Nat) (k v : Value), pvs[j]? = some (k, v) → ∃ (b : Addr) (q : Key), ps[j]? = some b ∧ IsTup s.heap b #[k, v] ∧ prs[j]? = some (q, v) ∧ keyIs q k = true
  | _, _, .nil => ⟨[], [], .nil, rfl, rfl, fun j k v e => by simp at e⟩
  | _, _, .cons (a := p) (b := kv) h t => by
    obtain ⟨prs, pvs, r, hl, hl2, hp⟩ := pairs_of2 I t
    obtain ⟨its, rv, ht, _⟩ := I.tuple h
    obtain ⟨u, y, ei, ru, ry⟩ := vals2 rv
    subst ei
    refine ⟨(kv.1, y) :: prs, (u, y) :: pvs, .cons ⟨rfl, ry⟩ r, by rw [List.length_cons, List.length_cons, hl], by rw [List.length_cons, List.length_cons, hl2], fun j k v e => ?_⟩
    cases j with
    | zero =>
      have e' : (u, y) = (k, v) := Option.some.inj e
      cases e'
      exact ⟨p, kv.1, rfl, ht, rfl, kV_is (P := X.prog) (w := X.w) ru⟩
    | succ j =>
      obtain ⟨b, q, e1, e2, e3, e4⟩ := hp j k v (by simpa using e)
      exact ⟨b, q, by simpa using e1, e2, by simpa using e3, e4⟩
/-- dict(t), t a known tuple of pairs (key, value) -/
theorem call_dictT (hcalm : X.calm = true) : CallR X (.type "dict") (fun xs H Q => ∃ (a : Addr) (o : Obj) (ps : List Addr) (kvs : List (Key × V)), xs = [.ref a] ∧ H a = some (.frz o (.tup (ps.map V.ref))) ∧ o.dict = none ∧ Paired (fun p kv => SqT X.K H p [kV kv.1, kv.2]) ps kvs ∧
    ∀ p, H p = none → Q (.ref p) (upd H p (.dK (mergeK [] kvs)))) := by
  intro pins s σ H xs us Q I r q
  obtain ⟨a, o, ps, kvs, ex, hq, hod, hp, q⟩ := q
  subst ex
  obtain ⟨u, eu, rx⟩ := vals1 r
  subst eu
  cases rx
  obtain ⟨hget, hz, its, rv, o', ho', hcls, nn, hdat⟩ := I.hok a _ hq
  rw [hget] at ho'
  cases ho'
  have ei := refs_at rv
  subst ei
  rw [List.length_map] at hz
  obtain ⟨prs, pvs, rel, hl, hl2, hpr⟩ := pairs_of2 I hp
  refine PySem.call_dict_pairs (knd := mixKind X.prog X.w) (kvs := prs) (PySem.PairArg.tuple a (ps.map Value.ref).toArray (fun j => ps.getD j 0) pvs) (I.ok.hd hcalm) ⟨⟨o, nn, hget, hcls, hod, hdat⟩, by simp [hl2], fun j k v e => ?_⟩ ⟨by rw [hl, hl2], fun i k v e => ?_⟩ (by rw [hl2]; exact hz) fun h' tk hd' k => ?_
  · obtain ⟨b, qq, e1, e2, e3, e4⟩ := hpr j k v e
    refine ⟨by simp [List.getD, e1], .inl ?_⟩
    show s.heap.IsTuple (ps.getD j 0) #[k, v]
    rw [show ps.getD j 0 = b by simp [List.getD, e1]]
    exact e2
  · obtain ⟨b, qq, e1, e2, e3, e4⟩ := hpr i k v e
    exact ⟨qq, e3, e4⟩
  · have hm : (s.heap.objs.size == sysModules) = false := beq_eq_false_iff_ne.mpr (Nat.ne_of_gt I.big)
    have hlen : (mergeK [] kvs).length ≤ sizeLine := by
      refine Nat.le_trans (length_mergeK kvs []) ?_
      rw [List.length_nil, Nat.zero_add, rel.length, hl]
      exact hz
    exact ⟨.ref s.heap.objs.size, upd H s.heap.objs.size (.dK (mergeK [] kvs)), I.laid (t' := tk) (fun b o e => k b o (by simp) e) (Nat.le_refl _) (show ObjOk X.prog X.w _ _ _ (.dK (mergeK [] kvs)) from ⟨hlen, hm, merged [] prs, KV.merge rel .nil, hd'⟩), rfl, q _ (I.hok.fresh (Nat.le_refl _))⟩
end
end Ba
namespace Ba
open PySem PySem.Spec PyProof.Rows L2
/-- x[i] of a list or of a tuple -/
def rIxA (K : PySem.W.Frag) : R2 := fun x y H Q => ∃ p xs i v, x = .ref p ∧ y = .int i ∧ (SqL K H p xs ∨ SqT K H p xs) ∧ atI xs i = some v ∧ Q v H
theorem ix_any {X : Cx} : IxR X (rIxA X.K) := by
  intro value slice pins s σ H x y v u Q I rx ry h hs
  obtain ⟨p, xs, i, z, rfl, rfl, hq, he, q⟩ := h
  rcases hq with hq | hq
  · exact ix_list value slice pins s σ H _ _ v u Q I rx ry ⟨p, xs, i, z, rfl, rfl, hq, he, q⟩ hs
  · exact ix_tup value slice pins s σ H _ _ v u Q I rx ry ⟨p, xs, i, z, rfl, rfl, hq, he, q⟩ hs
end Ba
namespace Ba
open PySem PySem.Spec PyProof.Rows L2
/-- a special method of a class, as len finds it -/
structure OneOk (P : Program) (w : World) (K : PySem.W.Frag) (mg : Str → Option Value) (base : Heap) (C : Addr) (m : Str) (k : Nat) (ps : List Str) (sp : Sp) : Prop where
  ex : ∃ (f : Addr) (fd : FuncData), FnOk P w K mg base (L2N.CX P w) k f fd ps sp ∧ PySem.W.findIn K (.ref C) m = some (some (.ref f)) ∧ PySem.W.isFn K (.ref f) = true ∧ Binds K fd ps []
theorem len_x {X : Cx} {C : Addr} {k : Nat} {ps : List Str} {sp : Sp} {E : XK} (D : OneOk X.prog X.w X.K X.mg X.base C "__len__" k ps sp) (hr : Room (k + 1) X.A) (hx : Passes (L2N.CX X.prog X.w) X E) :
    CallR X (.builtin "len") (fun xs H Q => ∃ a dx fs, xs = [V.ref a] ∧ H a = some (.ins C dx fs) ∧ sp [.ref a] H (fun v H' => ∃ n : Int, v = .int n ∧ 0 ≤ n ∧ n < 2 ^ 63 ∧ Q (.int n) H') E) := by
  obtain ⟨f, fd, F, hs, hf, hb⟩ := D
  exact one_len F hr hs hf hb hx
end Ba
namespace Ba
open PySem PySem.Spec PyProof.Rows L2
/-- a statement that is not reached -/
theorem ps_never {X : Cx} {st : Stmt} : PS X st (fun _ _ _ => False) := ⟨fun _ _ _ _ _ _ h => h.elim⟩
end Ba

set_option maxHeartbeats 400000
/-! Parts of the heap that are apart: a list of resources. -/
namespace Ba
open PySem PySem.Spec PyProof.Rows L2
structure Res where
  foot : List Addr
  P : Hp → Prop
structure Res.Ok (r : Res) : Prop where
  live : ∀ H, r.P H → ∀ x ∈ r.foot, H x ≠ none
  kp : ∀ H H' S, r.P H → Kp S H H' → (∀ x ∈ r.foot, x ∉ S) → r.P H'
/-- since H0 only S0 and new objects have changed; the resources rs hold at H, and are apart -/
structure Sep (S0 : List Addr) (H0 H : Hp) (rs : List Res) : Prop where
  k : Kp S0 H0 H
  p : ∀ (i : Nat) r, rs[i]? = some r → r.P H
  ok : ∀ (i : Nat) r, rs[i]? = some r → r.Ok
  fr : ∀ (i : Nat) r, rs[i]? = some r → ∀ x ∈ r.foot, x ∈ S0 ∨ H0 x = none
  dj : ∀ (i j : Nat) a b, i ≠ j → rs[i]? = some a → rs[j]? = some b → ∀ x ∈ a.foot, x ∉ b.foot
section
variable {S0 : List Addr} {H0 H H' : Hp} {rs : List Res} {r r' : Res}
theorem Sep.nil (H : Hp) : Sep S0 H H [] := ⟨Kp.refl _, fun i r e => by simp at e, fun i r e => by simp at e, fun i r e => by simp at e, fun i j a b _ e => by simp at e⟩
theorem Sep.one (ok : r.Ok) (p : r.P H) (hs : ∀ x ∈ r.foot, x ∈ S0) : Sep S0 H H [r] :=
  ⟨Kp.refl _, fun i a e => by
    match i with
    | 0 => simp at e; subst e; exact p
    | i + 1 => simp at e, fun i a e => by
    match i with
    | 0 => simp at e; subst e; exact ok
    | i + 1 => simp at e, fun i a e x hx => by
    match i with
    | 0 => simp at e; subst e; exact .inl (hs x hx)
    | i + 1 => simp at e, fun i j a b n e1 e2 => by
    match i, j with
    | 0, 0 => exact absurd rfl n
    | 0, j + 1 => simp at e2
    | i + 1, _ => simp at e1⟩
theorem Sep.at (s : Sep S0 H0 H rs) (i : Nat) (e : rs[i]? = some r) : r.P H := s.p i r e
theorem Sep.ext (s : Sep S0 H0 H rs) (k : Kp [] H H') : Sep S0 H0 H' rs :=
  ⟨s.k.trans (k.mono (by simp)), fun i r e => (s.ok i r e).kp H H' [] (s.p i r e) k (by simp), s.ok, s.fr, s.dj⟩
theorem Sep.set (s : Sep S0 H0 H rs) (i : Nat) (e : rs[i]? = some r) (r' : Res) {S : List Addr} (k : Kp S H H') (hS : ∀ x ∈ S, x ∈ r.foot) (ok : r'.Ok) (p : r'.P H') (hf : ∀ x ∈ r'.foot, x ∈ r.foot ∨ H x = none) : Sep S0 H0 H' (rs.set i r') := by
  have hi := (List.getElem?_eq_some_iff.mp e).1
  have key : ∀ (j : Nat) a, (rs.set i r')[j]? = some a → (j = i ∧ a = r') ∨ (j ≠ i ∧ rs[j]? = some a) := fun j a h => by
    rw [List.getElem?_set] at h
    by_cases z : i = j
    · rw [if_pos z] at h
      rw [if_pos (by omega)] at h
      injection h with h
      exact .inl ⟨z.symm, h.symm⟩
    · rw [if_neg z] at h
      exact .inr ⟨fun y => z y.symm, h⟩
  refine ⟨?_, fun j a h => ?_, fun j a h => ?_, fun j a h x hx => ?_, fun j l a b n h1 h2 x hx => ?_⟩
  · refine Kp.less (S := S0 ++ S) ((s.k.mono (by simp +contextual)).trans (k.mono (by simp +contextual))) (fun b hb => ?_)
    rcases List.mem_append.mp hb with hb | hb
    · exact .inl hb
    · exact s.fr i r e b (hS b hb)
  · rcases key j a h with ⟨_, rfl⟩ | ⟨n, h⟩
    · exact p
    · exact (s.ok j a h).kp H H' S (s.p j a h) k (fun x hx z => s.dj j i a r n h e x hx (hS x z))
  · rcases key j a h with ⟨_, rfl⟩ | ⟨n, h⟩
    · exact ok
    · exact s.ok j a h
  · rcases key j a h with ⟨_, rfl⟩ | ⟨n, h⟩
    · rcases hf x hx with h1 | h1
      · exact s.fr i r e x h1
      · by_cases z : x ∈ S0
        · exact .inl z
        · right
          cases e0 : H0 x with
          | none => rfl
          | some o => rw [s.k.keep x o e0 z] at h1; cases h1
    · exact s.fr j a h x hx
  · rcases key j a h1 with ⟨e1, q1⟩ | ⟨n1, g1⟩
    · rcases key l b h2 with ⟨e2, q2⟩ | ⟨n2, g2⟩
      · exact absurd (e1.trans e2.symm) n
      · intro hb
        rw [q1] at hx
        rcases hf x hx with h3 | h3
        · exact s.dj i l r b (fun z => n2 z.symm) e g2 x h3 hb
        · exact (s.ok l b g2).live H (s.p l b g2) x hb h3
    · rcases key l b h2 with ⟨e2, q2⟩ | ⟨n2, g2⟩
      · intro hb
        rw [q2] at hb
        rcases hf x hb with h3 | h3
        · exact s.dj j i a r n1 g1 e x hx h3
        · exact (s.ok j a g1).live H (s.p j a g1) x hx h3
      · exact s.dj j l a b n g1 g2 x hx
theorem Sep.add (s : Sep S0 H0 H rs) (r' : Res) (k : Kp [] H H') (ok : r'.Ok) (p : r'.P H') (hf : ∀ x ∈ r'.foot, H x = none) : Sep S0 H0 H' (rs ++ [r']) := by
  have key : ∀ (j : Nat) a, (rs ++ [r'])[j]? = some a → (j = rs.length ∧ a = r') ∨ (j ≠ rs.length ∧ rs[j]? = some a) := fun j a h => by
    rw [List.getElem?_append] at h
    by_cases z : j < rs.length
    · rw [if_pos z] at h
      exact .inr ⟨by omega, h⟩
    · rw [if_neg z] at h
      have hj : j - rs.length = 0 := by
        rcases Nat.eq_zero_or_pos (j - rs.length) with q | q
        · exact q
        · rw [List.getElem?_eq_none (by simp; omega)] at h; cases h
      rw [hj] at h
      have h : some r' = some a := h
      injection h with h
      exact .inl ⟨by omega, h.symm⟩
  have fresh : ∀ x, H x = none → x ∈ S0 ∨ H0 x = none := fun x h1 => by
    by_cases z : x ∈ S0
    · exact .inl z
    · right
      cases e0 : H0 x with
      | none => rfl
      | some o => rw [s.k.keep x o e0 z] at h1; cases h1
  refine ⟨s.k.trans (k.mono (by simp)), fun j a h => ?_, fun j a h => ?_, fun j a h x hx => ?_, fun j l a b n h1 h2 x hx => ?_⟩
  · rcases key j a h with ⟨_, rfl⟩ | ⟨n, h⟩
    · exact p
    · exact (s.ok j a h).kp H H' [] (s.p j a h) k (by simp)
  · rcases key j a h with ⟨_, rfl⟩ | ⟨n, h⟩
    · exact ok
    · exact s.ok j a h
  · rcases key j a h with ⟨_, rfl⟩ | ⟨n, h⟩
    · exact fresh x (hf x hx)
    · exact s.fr j a h x hx
  · rcases key j a h1 with ⟨e1, q1⟩ | ⟨n1, g1⟩
    · rcases key l b h2 with ⟨e2, q2⟩ | ⟨n2, g2⟩
      · exact absurd (e1.trans e2.symm) n
      · exact fun hb => (s.ok l b g2).live H (s.p l b g2) x hb (hf x (q1 ▸ hx))
    · rcases key l b h2 with ⟨e2, q2⟩ | ⟨n2, g2⟩
      · exact fun hb => (s.ok j a g1).live H (s.p j a g1) x hx (hf x (q2 ▸ hb))
      · exact s.dj j l a b n g1 g2 x hx
/-- fewer, or others at less of the same places: each resource of the new list stands for another one of the old -/
theorem Sep.to (s : Sep S0 H0 H rs) (rs' : List Res) (f : Nat → Nat) (hf : ∀ i, i < rs'.length → ∀ j, j < rs'.length → f i = f j → i = j)
    (h : ∀ (i : Nat) r', rs'[i]? = some r' → ∃ r, rs[f i]? = some r ∧ (r.P H → r'.P H) ∧ r'.Ok ∧ ∀ x ∈ r'.foot, x ∈ r.foot) : Sep S0 H0 H rs' := by
  refine ⟨s.k, fun i a e => ?_, fun i a e => ?_, fun i a e x hx => ?_, fun i j a b n e1 e2 x hx hb => ?_⟩
  · obtain ⟨r, h1, h2, h3, h4⟩ := h i a e
    exact h2 (s.p _ _ h1)
  · obtain ⟨r, h1, h2, h3, h4⟩ := h i a e
    exact h3
  · obtain ⟨r, h1, h2, h3, h4⟩ := h i a e
    exact s.fr _ _ h1 x (h4 x hx)
  · obtain ⟨r1, h1, h2, h3, h4⟩ := h i a e1
    obtain ⟨r2, g1, g2, g3, g4⟩ := h j b e2
    have hi := (List.getElem?_eq_some_iff.mp e1).1
    have hj := (List.getElem?_eq_some_iff.mp e2).1
    exact s.dj _ _ _ _ (fun z => n (hf i hi j hj z)) h1 g1 x (h4 x hx) (g4 x hb)
/-- another view of resource i -/
theorem Sep.view (s : Sep S0 H0 H rs) (i : Nat) (e : rs[i]? = some r) (r' : Res) (p : r.P H → r'.P H) (ok : r'.Ok) (hf : ∀ x ∈ r'.foot, x ∈ r.foot) : Sep S0 H0 H (rs.set i r') :=
  s.set i e r' (Kp.refl (S := []) H) (by simp) ok (p (s.p i r e)) (fun x hx => .inl (hf x hx))
theorem Sep.take (s : Sep S0 H0 H rs) (n : Nat) : Sep S0 H0 H (rs.take n) := by
  have key : ∀ (i : Nat) r', (rs.take n)[i]? = some r' → rs[i]? = some r' := fun i r' e => by
    rw [List.getElem?_take] at e
    split at e
    · exact e
    · cases e
  exact s.to _ (fun i => i) (fun _ _ _ _ z => z) (fun i r' e => ⟨r', key i r' e, fun z => z, s.ok i r' (key i r' e), fun _ z => z⟩)
/-- the last resource joins another one -/
theorem Sep.merge {rl : Res} (s : Sep S0 H0 H (rs ++ [rl])) (i : Nat) (e : rs[i]? = some r) (r' : Res) {S : List Addr} (k : Kp S H H') (hS : ∀ x ∈ S, x ∈ r.foot ∨ x ∈ rl.foot) (ok : r'.Ok) (p : r'.P H') (hf : ∀ x ∈ r'.foot, x ∈ r.foot ∨ x ∈ rl.foot ∨ H x = none) : Sep S0 H0 H' (rs.set i r') := by
  have hi := (List.getElem?_eq_some_iff.mp e).1
  have old : ∀ (j : Nat) a, rs[j]? = some a → (rs ++ [rl])[j]? = some a := fun j a h => by
    rw [List.getElem?_append, if_pos (List.getElem?_eq_some_iff.mp h).1]; exact h
  have last : (rs ++ [rl])[rs.length]? = some rl := by simp
  have lt : ∀ (j : Nat) a, rs[j]? = some a → j ≠ rs.length := fun j a h => by have := (List.getElem?_eq_some_iff.mp h).1; omega
  have s1 : Sep S0 H0 H (rs.set i ⟨r.foot ++ rl.foot, fun H => r.P H ∧ rl.P H⟩) := by
    have key : ∀ (j : Nat) a, (rs.set i ⟨r.foot ++ rl.foot, fun H => r.P H ∧ rl.P H⟩)[j]? = some a → (j = i ∧ a = ⟨r.foot ++ rl.foot, fun H => r.P H ∧ rl.P H⟩) ∨ (j ≠ i ∧ rs[j]? = some a) := fun j a h => by
      rw [List.getElem?_set] at h
      by_cases z : i = j
      · rw [if_pos z] at h
        rw [if_pos (by omega)] at h
        injection h with h
        exact .inl ⟨z.symm, h.symm⟩
      · rw [if_neg z] at h
        exact .inr ⟨fun y => z y.symm, h⟩
    refine ⟨s.k, fun j a h => ?_, fun j a h => ?_, fun j a h x hx => ?_, fun j l a b n h1 h2 x hx hb => ?_⟩
    · rcases key j a h with ⟨_, q⟩ | ⟨n, g⟩
      · rw [q]; exact ⟨s.p _ _ (old _ _ e), s.p _ _ last⟩
      · exact s.p _ _ (old _ _ g)
    · rcases key j a h with ⟨_, q⟩ | ⟨n, g⟩
      · rw [q]
        refine ⟨fun H h x hx => ?_, fun H H' S h k n => ⟨(s.ok _ _ (old _ _ e)).kp H H' S h.1 k (fun x hx => n x (List.mem_append_left _ hx)), (s.ok _ _ last).kp H H' S h.2 k (fun x hx => n x (List.mem_append_right _ hx))⟩⟩
        rcases List.mem_append.mp hx with hx | hx
        · exact (s.ok _ _ (old _ _ e)).live H h.1 x hx
        · exact (s.ok _ _ last).live H h.2 x hx
      · exact s.ok _ _ (old _ _ g)
    · rcases key j a h with ⟨_, q⟩ | ⟨n, g⟩
      · rw [q] at hx
        rcases List.mem_append.mp hx with hx | hx
        · exact s.fr _ _ (old _ _ e) x hx
        · exact s.fr _ _ last x hx
      · exact s.fr _ _ (old _ _ g) x hx
    · rcases key j a h1 with ⟨e1, q1⟩ | ⟨n1, g1⟩
      · rcases key l b h2 with ⟨e2, q2⟩ | ⟨n2, g2⟩
        · exact absurd (e1.trans e2.symm) n
        · rw [q1] at hx
          rcases List.mem_append.mp hx with hx | hx
          · exact s.dj i l r b (fun z => n2 z.symm) (old _ _ e) (old _ _ g2) x hx hb
          · exact s.dj rs.length l rl b (lt _ _ g2).symm last (old _ _ g2) x hx hb
      · rcases key l b h2 with ⟨e2, q2⟩ | ⟨n2, g2⟩
        · rw [q2] at hb
          rcases List.mem_append.mp hb with hb | hb
          · exact s.dj j i a r n1 (old _ _ g1) (old _ _ e) x hx hb
          · exact s.dj j rs.length a rl (lt _ _ g1) (old _ _ g1) last x hx hb
        · exact s.dj j l a b n (old _ _ g1) (old _ _ g2) x hx hb
  have s2 := s1.set i (by rw [List.getElem?_set, if_pos rfl, if_pos hi]) r' k (fun x hx => List.mem_append.mpr (hS x hx)) ok p (fun x hx => by
    rcases hf x hx with h | h | h
    · exact .inl (List.mem_append_left _ h)
    · exact .inl (List.mem_append_right _ h)
    · exact .inr h)
  rwa [List.set_set] at s2
/-- what a later heap is free at was free before -/
theorem Sep.free (s : Sep S0 H0 H rs) {x : Addr} (h : H x = none) (n : x ∉ S0) : H0 x = none := s.k.freeS h n
theorem Sep.ne (s : Sep S0 H0 H rs) (i : Nat) (e : rs[i]? = some r) {x : Addr} (h : H x = none) : x ∉ r.foot := fun z => (s.ok i r e).live H (s.p i r e) x z h
end
/-! ### common resources -/
def DatR (v : V) (d : PyData) : Res := ⟨[], fun H => Tp H v d⟩
theorem DatR.ok {v : V} {d : PyData} : (DatR v d).Ok := ⟨fun _ _ x hx => by simp [DatR] at hx, fun H H' S p k _ => Tp.kp p k⟩
/-- a list of data -/
def OpsR (a : Addr) (ds : List PyData) : Res := ⟨[a], fun H => ∃ xs, H a = some (.lst xs) ∧ TpAll H xs ds⟩
theorem OpsR.ok {a : Addr} {ds : List PyData} : (OpsR a ds).Ok := ⟨fun H ⟨xs, h, _⟩ x hx => by
    have hx : x = a := by simpa [OpsR] using hx
    rw [hx, h]; simp, fun H H' S ⟨xs, h, t⟩ k n => ⟨xs, k.keep _ _ h (n a (by simp [OpsR])), t.kp k⟩⟩
/-- any object that is known -/
def CellR (a : Addr) (o : HO) : Res := ⟨[a], fun H => H a = some o⟩
theorem CellR.ok {a : Addr} {o : HO} : (CellR a o).Ok := ⟨fun H h x hx => by
    have hx : x = a := by simpa [CellR] using hx
    have h : H a = some o := h
    rw [hx, h]; simp, fun H H' S h k n => k.keep _ _ h (n a (by simp [CellR]))⟩
/-- what stays whatever happens: tuples -/
def StayR (P : Hp → Prop) : Res := ⟨[], P⟩
theorem StayR.ok {P : Hp → Prop} (h : ∀ H H' S, P H → Kp S H H' → P H') : (StayR P).Ok := ⟨fun _ _ x hx => by simp [StayR] at hx, fun H H' S p k _ => h H H' S p k⟩
end Ba

set_option maxHeartbeats 400000
/-! A list against the empty one; == by the text's own __eq__, any answer. -/
namespace Ba
section
open PySem PySem.SeqAt GQ
open AutoSeq1 (wpAny_loadPart')
open MeetsSeq MeetsSeq2 MeetsSeq3 SeqRoads2
variable {prog : Program} {w : World} {A : Around} {E : Value → Shared → Prop} {s : Shared}
theorem rc_list_sz {l b : Addr} {items items2 : Array Value} {n n2 : Nat} {Q : Value → Shared → Prop} (hu : A.units < cLine)
    (hl1 : s.heap.get? l = some { cls := .type "list", data := .seq items n }) (hb1 : s.heap.get? b = some { cls := .type "list", data := .seq items2 n2 }) (hne : items.size ≠ items2.size) (q : Q (.bool false) s) :
    wpAny (model prog w) A (richCompare .Eq (.ref l) (.ref b)) Q E s := by
  refine wpAny_richCompare_same_room (op := .Eq) ⟨_, hl1, rfl⟩ ⟨_, hb1, rfl⟩ F.slot_list_eq (call_here F.slot_list_eq ⟨_, hl1, rfl⟩ F.entry_list_eq (F.args_list_eq_2 _ _) ?_) hu
  obtain ⟨hp, g, d, tk, os⟩ := s
  have f3 := AutoSeq1.sub_list_list
  have hne' : (items.size != items2.size) = true := by simp [hne]
  wp_walk using wpAny_loadPart' hl1, wpAny_loadPart' hb1
  exact ⟨(fun x => nomatch x), q⟩
end
open PySem PySem.Spec PyProof.Rows L2
section
variable {X : Cx}
theorem op_eqNil (hu : X.A.units < cLine) : OpR X (compareOp .Eq) (fun x y H Q => ∃ a b xs, x = .ref a ∧ y = .ref b ∧ H a = some (.lst xs) ∧ H b = some (.lst []) ∧ Q (.bl xs.isEmpty) H) := by
  intro pins s σ H x y v u Q I rx ry h
  obtain ⟨a, b, xs, rfl, rfl, ha, hb, q⟩ := h
  cases rx
  cases ry
  obtain ⟨z, its, k, r, e⟩ := I.hok a _ ha
  obtain ⟨z2, its2, k2, r2, e2⟩ := I.hok b _ hb
  cases r2
  show wpAny (model X.prog X.w) X.A (richCompare .Eq (.ref a) (.ref b)) _ X.xe s
  cases xs with
  | nil =>
    cases r
    refine GQ.rc_listG (N := 0) hu (fun _ s' => s' = s) (fun i s' e' => ?_) (fun s' e' => ?_) rfl
    · subst e'
      exact ⟨_, _, _, _, e, e2, rfl, rfl, fun h1 _ => by simp at h1⟩
    · subst e'
      exact ⟨.bl true, H, I, rfl, q⟩
  | cons y ys =>
    cases r with
    | cons r1 r2 =>
      exact rc_list_sz hu e e2 (by simp) ⟨.bl false, H, I, rfl, q⟩
end
section
variable {X : Cx} {n : Nat}
theorem op_eqOwn {CX : CXT} {C f : Addr} {fd : FuncData} {ps : List Str} {sp : Sp} {E : XK} (F : FnOk X.prog X.w X.K X.mg X.base CX n f fd ps sp)
    (hs : PySem.W.findIn X.K (.ref C) "__eq__" = some (some (.ref f))) (hf : PySem.W.isFn X.K (.ref f) = true) (hb : Binds X.K fd ps []) (hx : Passes CX X E) (hr : Room n X.A) :
    OpR X (compareOp .Eq) (fun x y H Q => ∃ a b dx dy fs gs, x = .ref a ∧ y = .ref b ∧ H a = some (.ins C dx fs) ∧ H b = some (.ins C dy gs) ∧ sp [.ref a, .ref b] H (fun v H' => ∃ r, v = .bl r ∧ Q (.bl r) H') E) := by
  intro pins s σ H x y u v Q I rx ry d
  obtain ⟨a, b, dx, dy, fs, gs, rfl, rfl, ha, hb', hsp⟩ := d
  cases rx
  cases ry
  obtain ⟨mA, J, _⟩ := ins_get I.hok ha
  obtain ⟨mB, J', _⟩ := ins_get I.hok hb'
  obtain ⟨od, J, _⟩ := J.look
  obtain ⟨od', J', _⟩ := J'.look
  obtain ⟨m, hF⟩ := I.fr
  show wpAny (model X.prog X.w) X.A (richCompare .Eq (.ref a) (.ref b)) _ X.xe s
  refine PySem.W.cmp_K (op := .Eq) (tb := .ref C) hr.units0 hF I.ok.mod.kin J J'.type (by simp [PySem.W.notFirst]) hs hf ?_
  have hl := F.len _ _ _ _ hsp
  have r2 : Vals [V.ref a, V.ref b] [Value.ref a, Value.ref b] := .cons rfl (.cons rfl .nil)
  refine wpAny_call (codeAny_mono (F.run X.A X.stack s H ⟨[.ref a, .ref b], []⟩ [.ref a, .ref b] [.ref a, .ref b] _ E hr I.env0 (by
    have := hb s [.ref a, .ref b] I.kIn (by simpa using hl)
    simpa using this) r2 hsp) fun r s' hq => ?_)
  cases r with
  | error e => exact hx pins σ H s e s' I hq
  | ok fl =>
    cases fl with
    | ret w =>
      obtain ⟨z, H', I', rz, k, ez, q⟩ := I.after hq
      subst ez
      cases rz
      exact ⟨.bl k, H', I', rfl, q⟩
    | next => exact False.elim hq
    | brk => exact False.elim hq
    | cont => exact False.elim hq
/-- == of two instances of the class, by its __eq__ -/
theorem eq_x {C : Addr} {k : Nat} {ps : List Str} {sp : Sp} {E : XK} (D : OneOk X.prog X.w X.K X.mg X.base C "__eq__" k ps sp) (hr : Room k X.A) (hx : Passes (L2N.CX X.prog X.w) X E) :
    OpR X (compareOp .Eq) (fun x y H Q => ∃ a b dx dy fs gs, x = .ref a ∧ y = .ref b ∧ H a = some (.ins C dx fs) ∧ H b = some (.ins C dy gs) ∧ sp [.ref a, .ref b] H (fun v H' => ∃ r, v = .bl r ∧ Q (.bl r) H') E) := by
  obtain ⟨f, fd, F, hs, hf, hb⟩ := D
  exact op_eqOwn F hs hf hb hx hr
end
end Ba

set_option maxHeartbeats 400000
/-! != by the text's own __eq__ (the class has none but object's __ne__). -/
namespace Ba
open PySem PySem.W
section
variable {prog : Program} {w : World} {A : Around} {E : Value → Shared → Prop} {s : Shared} {K : Frag} {x C f L : Addr} {ox : Obj} {od : Option Obj} {h₀ : Heap} {m : PySem.Str → Option Value}
theorem ifBoundB {M : Model} {name : PySem.Str} {id : String} {args : List Value} {Q : Option Value → Shared → Prop} (X : K.In s.heap) (I : InstAt s.heap x ox C od) (hs : findIn K (.ref C) name = some (some (.builtin id)))
    (hb : ∀ self, bindSpecial (.builtin id) self = pure (.builtin id, [self])) (h : wpAny M A (call (.builtin id) (.ref x :: args)) (fun v => Q (some v)) E s) : wpAny M A (callSpecialIfBound? (.ref x) name args) Q E s := by
  simp only [callSpecialIfBound?, bindSpecialIfBound?]
  have fin : wpAny M A (call (.builtin id) ([.ref x] ++ args) >>= fun v => pure (some v)) Q E s := wpAny_bind (wpAny_mono h (fun v s' h' => wpAny_pure h') fun _ _ h' => h')
  refine wpAny_holding (wpAny_bind (wpAny_bind (wpAny_bind (I.type.here ((looks_findIn X hs).here ?_)))))
  refine wpAny_bind (wpAny_askSetting (wpAny_ite ?_))
  split
  · exact wpAny_bind ((Looks.of_pure (hb _)).here (wpAny_pure (by exact fin)))
  · exact wpAny_tryCatch (wpAny_bind ((Looks.of_pure (hb _)).here (wpAny_pure (by exact fin))))
open Builtin in
theorem objNe {y : Value} {Q : Value → Shared → Prop} (hu : A.units + 1 < cLine) (X : K.In s.heap) (I : InstAt s.heap x ox C od) (hm : mroIn K C (.type "object") = some true) (he : findIn K (.ref C) "__eq__" = some (some (.ref f))) (hf : isFn K (.ref f) = true)
    (h : wpAny (model prog w) A.in1 (call (.ref f) [.ref x, y]) (fun v s' => ∃ b, v = .bool b ∧ Q (.bool (!b)) s') E s) : wpAny (model prog w) A (call (.builtin "object.__ne__") [.ref x, y]) Q E s := by
  have FB : CmpFacts "object" [.type "object"] := PySem.F.cmp_object
  refine wpAny_call (codeAny_call_builtin FB.ne.plain PySem.F.cmpEntry_ne (check_slot (i := "object.__ne__") (owner := "object") (n := "__ne__") PySem.F.cmpKind_ne PySem.F.cmpSplit_ne (I.type.andThen (looks_mroIn X hm)) (PySem.F.cmpArgs_ne _ _) ?_))
  unfold Builtin.«object.__ne__»
  refine wpAny_bind (m := slotArgs "__ne__" 1 _) (wpAny_pure ?_)
  refine wpAny_bind (m := cRoomFor _ _) (wpAny_cRoomFor hu ?_)
  refine wpAny_bind (m := callSpecialIfBound? (.ref x) (Str.ofString "__eq__") _) (ifBound_K X I he hf (wpAny_mono h (fun r s' hq => ?_) fun _ _ y => y))
  obtain ⟨b, rfl, hq⟩ := hq
  exact wpAny_bind (wpAny_truthy_bool (wpAny_pure hq))
theorem ne_K {y : Addr} {oy : Obj} {ody : Option Obj} {Q : Value → Shared → Prop} (hu : A.units + 1 < cLine) (X : K.In s.heap) (I : InstAt s.heap x ox C od) (J : InstAt s.heap y oy C ody) (hn : findIn K (.ref C) "__ne__" = some (some (.builtin "object.__ne__"))) (hm : mroIn K C (.type "object") = some true)
    (he : findIn K (.ref C) "__eq__" = some (some (.ref f))) (hf : isFn K (.ref f) = true)
    (h : wpAny (model prog w) A.in1 (call (.ref f) [.ref x, .ref y]) (fun v s' => ∃ b, v = .bool b ∧ Q (.bool (!b)) s') E s) : wpAny (model prog w) A (compareOp .NotEq (.ref x) (.ref y)) Q E s := by
  show wpAny (model prog w) A (richCompare .NotEq (.ref x) (.ref y)) Q E s
  have FB : CmpFacts "object" [.type "object"] := PySem.F.cmp_object
  unfold richCompare
  simp only [oneThing_ref]
  refine wpAny_holding (wpAny_bind (wpAny_cRoomFor (Nat.lt_of_succ_lt hu) ?_))
  rw [cmpInfo_NotEq]
  dsimp only
  refine wpAny_bind (I.type.here (wpAny_bind (J.type.here ?_)))
  rw [show (Value.ref C != Value.ref C) = false from by simp]
  simp only [Bool.false_eq_true, if_false]
  refine wpAny_bind (wpAny_pure ?_)
  simp only [Bool.false_eq_true, if_false]
  unfold tryCompare
  refine wpAny_bind (wpAny_bind (ifBoundB X I hn FB.ne.bind (objNe hu X I hm he hf (wpAny_mono h (fun v s' hv => ?_) fun _ _ e => e))))
  obtain ⟨b, rfl, hq⟩ := hv
  refine ⟨b, rfl, ?_⟩
  first | exact wpAny_pure hq | exact wpAny_pure (wpAny_pure hq)
end
open PySem PySem.Spec PyProof.Rows L2
/-- the class has object's __ne__ -/
structure NeC (K : PySem.W.Frag) (C : Addr) : Prop where
  ne : PySem.W.findIn K (.ref C) "__ne__" = some (some (.builtin "object.__ne__"))
  mro : PySem.W.mroIn K C (.type "object") = some true
section
variable {X : Cx} {n : Nat}
/-- != of two instances of the class, by its __eq__ -/
theorem ne_x {C : Addr} {k : Nat} {ps : List Str} {sp : Sp} {E : XK} (N : NeC X.K C) (D : OneOk X.prog X.w X.K X.mg X.base C "__eq__" k ps sp) (hr : Room (k + 1) X.A) (hx : Passes (L2N.CX X.prog X.w) X E) :
    OpR X (compareOp .NotEq) (fun x y H Q => ∃ a b dx dy fs gs, x = .ref a ∧ y = .ref b ∧ H a = some (.ins C dx fs) ∧ H b = some (.ins C dy gs) ∧ sp [.ref a, .ref b] H (fun v H' => ∃ r, v = .bl r ∧ Q (.bl (!r)) H') E) := by
  obtain ⟨f, fd, F, hs, hf, hb⟩ := D
  intro pins s σ H x y u v Q I rx ry d
  obtain ⟨a, b, dx, dy, fs, gs, rfl, rfl, ha, hb', hsp⟩ := d
  cases rx
  cases ry
  obtain ⟨mA, J, _⟩ := ins_get I.hok ha
  obtain ⟨mB, J', _⟩ := ins_get I.hok hb'
  obtain ⟨od, J, _⟩ := J.look
  obtain ⟨od', J', _⟩ := J'.look
  refine ne_K (by have := hr.un; omega) I.kIn J J' N.ne N.mro hs hf ?_
  have hl := F.len _ _ _ _ hsp
  have r2 : Vals [V.ref a, V.ref b] [Value.ref a, Value.ref b] := .cons rfl (.cons rfl .nil)
  refine wpAny_call (codeAny_mono (F.run X.A.in1 X.stack s H ⟨[.ref a, .ref b], []⟩ [.ref a, .ref b] [.ref a, .ref b] _ E hr.in1 I.env0.in1 (by
    have := hb s [.ref a, .ref b] I.kIn (by simpa using hl)
    simpa using this) r2 hsp) fun r s' hq => ?_)
  cases r with
  | error e => exact hx pins σ H s e s' I hq
  | ok fl =>
    cases fl with
    | ret w =>
      obtain ⟨z, H', I', rz, k, ez, q⟩ := I.after hq
      subst ez
      cases rz
      exact ⟨k, rfl, .bl (!k), H', I', rfl, q⟩
    | next => exact False.elim hq
    | brk => exact False.elim hq
    | cont => exact False.elim hq
end
end Ba

set_option maxHeartbeats 400000
/-! repr of data; a law that is asked where no repr is under way. -/
namespace Ba
open PySem PySem.Spec PyProof.Rows L2
section
variable {X : Cx}
theorem call_repr (hg : X.A.guards = some []) (hu : X.A.units + 64 < cLine) : CallR X (.builtin "repr") (fun xs H Q => ∃ a d, xs = [.ref a] ∧ Dp X.K H (.ref a) d ∧ d.showable = true ∧ d.hasDict = false ∧ d.depth ≤ 60 ∧ d.shown.length ≤ sizeLine ∧ Q (.str d.shown) H) := by
  intro pins s σ H xs us Q I r h
  obtain ⟨a, d, rfl, hd, hs, hn, hdep, hz, q⟩ := h
  cases r with
  | cons r1 r2 =>
    cases r2
    cases r1
    obtain ⟨as, rd⟩ := Dp.reads I d _ _ hd rfl
    exact repr_of_reads' rd hs (PyData.noDict_hsm hn) hg (by omega) (fun _ _ e => e) (fun h' u tk hk => ⟨.str d.shown, H, I.kept hk, ⟨_, rfl⟩, q⟩) hz
end
/-- a def's promise where no repr is under way -/
structure FnG (P : Program) (w : World) (K : PySem.W.Frag) (mg : Str → Option Value) (base : Heap) (CX : CXT) (k : Nat) (f : Addr) (fd : FuncData) (ps : List Str) (sp : Sp) : Prop where
  run : ∀ (A : Around) (outer : List Env) (s : Shared) (H : Hp) (args : Args) (us : List Value) (vs : List V) (Q : VK) (E : XK), A.guards = some [] → Room k A → Env0 P w K mg base A outer s H → BindsTo s fd args (ps.zip us) → Vals vs us → sp vs H Q E →
    codeAny (model P w) A (.call (.ref f) args) (CR CX outer P w H s Q E) s
/-- the around of a body knows the guards -/
theorem guards_deeper {A : Around} {env : Env} (h : A.guards = some []) : (A.deeper env).guards = some [] := by
  first | exact h | simpa [Around.deeper] using h
section
variable {P : Program} {w : World} {K : PySem.W.Frag} {mg : Str → Option Value} {base : Heap} {x qual : Str} {st : Stmt} {f : Addr} {fd : FuncData} {ps N : List Str} {k : Nat} {sp : Sp} {CX : CXT}
theorem okG (F : FunS K x qual st [] [] f fd) (S : FnScope N ps (defScope st)) (len : ∀ vs H Q E, sp vs H Q E → vs.length = ps.length)
    (hbody : ∀ (cdv : Value) (A : Around) (outer : List Env) (s : Shared) (H : Hp) (vs : List V) (Q : VK) (E : XK), (A.deeper (envOfC qual (defScope st) s.heap.objs.size f cdv)).guards = some [] → Room k (A.deeper (envOfC qual (defScope st) s.heap.objs.size f cdv)) → sp vs H Q E →
      ∃ t, PSs (cxOf CX P w K mg base N qual (defScope st) f cdv A outer s H E) (defBody st) t ∧ t { nx := fun _ H' => Q .non H', rt := Q } (start N vs) H) : FnG P w K mg base CX (k + 1) f fd ps sp := by
  obtain ⟨oc, od, dV, kV, doc, pm, an, cdv, ct, osl, rfl, lk, hcd, _, _⟩ := F.ex
  -- the rule for a promise that tells the around too
  refine ⟨fun A outer s H args us vs Q E hg hr e0 hb r hsp => ?_⟩
  have hN : ∀ vs' H' Q' E', (vs' = vs ∧ sp vs' H' Q' E') → vs'.length = ps.length := fun vs' H' Q' E' h => len _ _ _ _ h.2
  have hl := len _ _ _ _ hsp
  have up : ∀ (b : Addr) (o : Obj), base.get? b = some o → s.heap.get? b = some o := fun b o e => (e0.bs b o e).1
  have inK : K.In s.heap := e0.mod.kin.keeps up
  have noL : s.heap.NoLimit := e0.mod.nolimit.keeps up
  refine codeAny_call_function hr.depth (inK _ _ lk) rfl S.co S.gen rfl (PySem.W.codeRec_of inK hcd) (hb _ _ _ _ ?_)
  refine wpAny_newFunctionEnv_cells S.kind (fun y hy => ?_) fun env ee s1 z => ?_
  · obtain ⟨n, v⟩ := y
    cases S.par n (List.of_mem_zip hy).1 with
    | inl q => exact Or.inl q
    | inr q => exact Or.inr ⟨q, PySem.W.cellsFrom_some _ _ _ (Or.inl q)⟩
  · subst ee
    obtain ⟨t, ht, hq⟩ := hbody cdv A outer s H vs Q E (guards_deeper hg) (hr.deeper _) hsp
    refine ⟨noL.keeps z.toInCall.keep, codeAny_func (wpAny_mono (ht.run [] s1 (start N vs) H _ (inv_start S hr.hd e0 hl r z) hq) (fun fl s' hs => ?_) fun _ _ hs => hs)⟩
    cases fl with
    | brk => obtain ⟨_, _, _, q⟩ := hs; exact False.elim q
    | cont => obtain ⟨_, _, _, q⟩ := hs; exact False.elim q
    | next =>
      obtain ⟨σ', H', J, q⟩ := hs
      exact ⟨.non, H', J.os, J.bare, J.base, J.hok, rfl, q⟩
    | ret u =>
      obtain ⟨v, σ', H', J, rv, q⟩ := hs
      exact ⟨v, H', J.os, J.bare, J.base, J.hok, rv, q⟩
end
/-- the call of a law that is promised where no repr is under way -/
theorem law_callG {P : Program} {w : World} {K : PySem.W.Frag} {mg mb : Str → Option Value} {k : Nat} {fa a : Addr} {fd : FuncData} {x : Str} {sp : Sp} {s₁ : Shared} {vs : List Value} {ns : List Int}
    (KX : K.In s₁.heap) (hns : s₁.heap.Ns mainGlobals mg) (hb : s₁.heap.Ns builtinsNs mb) (hbb : ∀ y : Str, y ≠ "__name__" → mb y = bootBuiltins y) (hlim : s₁.heap.NoLimit)
    (hgn : s₁.gens = #[]) (ha : s₁.heap.get? a = some { cls := .type "list", data := .seq vs.toArray }) (hi : IntsAre vs ns) (hl : ns.length ≤ sizeLine) (hr : Room k callerA)
    (F : ∀ base : Heap, K.In base → base.Ns mainGlobals mg → FnG P w K mg base (L2N.CX P w) k fa fd [x] sp) (hbind : ∀ (s : Shared) (u : Value), BindsTo s fd ⟨[u], []⟩ [(x, u)])
    (hsp : ∀ H : Hp, Only H → SqL K H a (ns.map V.int) → sp [.ref a] H (fun v _ => v = .bl true) fun _ _ _ => False) :
    codeAny (model P w) callerA (.call (.ref fa) ⟨[.ref a], []⟩) (fun r s' => r = .ok (.ret (.bool true)) ∧ OldK s₁.heap s'.heap ∧ s'.os = s₁.os ∧ AllBare s'.gens) s₁ := by
  have rv := vals_ints hi
  have core : ∀ H : Hp, Only H → SqL K H a (ns.map V.int) → HOk P w H s₁.heap → (∀ b, H b ≠ none → b = a) → (H a ≠ none → K.lookup a = none) →
      codeAny (model P w) callerA (.call (.ref fa) ⟨[.ref a], []⟩) (fun r s' => r = .ok (.ret (.bool true)) ∧ OldK s₁.heap s'.heap ∧ s'.os = s₁.os ∧ AllBare s'.gens) s₁ := by
    intro H hO hS hok only notK
    have put : ∀ {b : Addr} {o : Obj}, s₁.heap.get? b = some o → (H b ≠ none → False) → (hidT s₁.heap H).get? b = some o := fun {b o} e n => hidT_get e (by
      cases q : H b with
      | none => rfl
      | some u => exact absurd (by rw [q]; simp) n)
    have keepNs : ∀ {b : Addr} {m : Str → Option Value}, s₁.heap.Ns b m → (hidT s₁.heap H).Ns b m := by
      rintro b m ⟨o, es, ep, e, d, r⟩
      refine ⟨o, es, ep, put e fun z => ?_, d, r⟩
      obtain rfl := only b z
      rw [ha] at e
      cases e
      exact nomatch (show Data.seq vs.toArray _ = Data.dict es ep from d)
    have keepK : K.In (hidT s₁.heap H) := fun b o e => put (KX b o e) fun z => by
      obtain rfl := only b z
      rw [notK z] at e
      cases e
    obtain ⟨mc, l1, l2⟩ := hlim
    have e0 : Env0 P w K mg (hidT s₁.heap H) callerA [] s₁ H :=
      { frames := rfl, mod := ⟨keepK, keepNs hns, ⟨mb, keepNs hb, hbb⟩, ⟨mc, keepNs l1, l2⟩⟩, bs := fun b o e => of_hidT e, bsz := Nat.le_of_eq (hidT_size _ _), funs := trivial, frf := fun b z => absurd (show b ∈ ([] : List Addr) from z) (by simp), hok := hok, bare := .of_eq hgn }
    have go := (F _ keepK (keepNs hns)).run callerA [] s₁ H ⟨[.ref a], []⟩ [.ref a] [.ref a] (fun v _ => v = .bl true) (fun _ _ _ => False) rfl hr e0 (hbind s₁ (.ref a)) (.cons rfl .nil) (hsp H hO hS)
    refine codeAny_mono go fun r s' h => ?_
    cases r with
    | error e =>
      obtain ⟨_, _, _, _, _, _, _, _, _, _, _, _, z⟩ := h
      exact z.elim
    | ok fl =>
      cases fl with
      | ret u =>
        obtain ⟨v, H', os, bare, un, hok', r', q⟩ := h
        cases (show v = .bl true from q)
        cases (show u = Value.bool true from r')
        refine ⟨rfl, OldK.of_keep fun b o e => ?_, os, bare⟩
        rcases hO b with z | ⟨ob, xs, z⟩
        · exact un.keep b o e z (fun n => absurd (show b ∈ ([] : List Addr) from n) (by simp)) (by simp)
        · have after := (hok' b _ (un.frzs b ob _ z)).1
          have before := (hok b _ z).1
          rw [before] at e
          rw [← Option.some.inj e]
          exact after
      | next => exact h.elim
      | brk => exact h.elim
      | cont => exact h.elim
  have len2 : vs.length = ns.length := hi.length
  cases hk : K.lookup a with
  | some o =>
    have e := KX a o hk
    rw [ha] at e
    cases e
    exact core (fun _ => none) (fun _ => .inl rfl) (.inr ⟨_, vs.toArray, _, hk, rfl, rfl, rfl, by rw [List.size_toArray, len2]; exact hl, by simpa using rv⟩) (fun b u z => nomatch (show (none : Option HO) = some u from z)) (fun b z => absurd rfl z) fun z => absurd rfl z
  | none =>
    let G : Hp := upd (fun _ => none) a (.frz { cls := .type "list", data := .seq vs.toArray } (.lst (ns.map V.int)))
    have at_a : G a = some (.frz { cls := .type "list", data := .seq vs.toArray } (.lst (ns.map V.int))) := upd_same
    have off : ∀ {b : Addr}, b ≠ a → G b = none := fun n => upd_ne n
    refine core G (fun b => ?_) (.inl (.inr ⟨{ cls := .type "list", data := .seq vs.toArray }, at_a⟩)) (fun b u z => ?_) (fun b z => ?_) fun _ => hk
    · rcases Nat.decEq b a with n | n
      · exact Or.inl (off n)
      · subst n
        exact Or.inr ⟨_, _, at_a⟩
    · rcases Nat.decEq b a with n | n
      · rw [off n] at z
        cases z
      · subst n
        rw [at_a] at z
        cases z
        exact ⟨ha, by rw [List.length_map]; exact hl, vs, _, rv, ha⟩
    · rcases Nat.decEq b a with n | n
      · exact absurd (off n) z
      · exact n
/-- the walk of such a law -/
theorem walk_wG {l : PySem.W.OpenLaw} {n k : Nat} {q : Program} {loose : List Str} {XP : (Str → Option Value) → Heap → Prop} {YP : World → Heap → Prop} {d : DefRec} {x : Str}
    (hn : l.most = some n) (hn2 : n ≤ sizeLine) (hdf : d.params.defaults = []) (hr : L2.Room k callerA)
    (F : ∀ (w : World) (mg : Str → Option Value) (fa : Addr) (h : Heap), YP w h → h.Ns mainGlobals mg → mg d.name = some (.ref fa) →
      ∃ (K : PySem.W.Frag) (fd : FuncData) (sp : Sp), K.In h ∧ (∀ (s : Shared) (u : Value), BindsTo s fd ⟨[u], []⟩ [(x, u)]) ∧
        (∀ (H : Hp) (a : Addr) (ns : List Int), ns.length ≤ n → Only H → SqL K H a (ns.map V.int) → sp [.ref a] H (fun v _ => v = .bl true) fun _ _ _ => False) ∧
        ∀ base : Heap, K.In base → base.Ns mainGlobals mg → FnG l.prog w K mg base (L2N.CX l.prog w) k fa fd [x] sp) :
    PySem.W.WalkO q loose XP YP l.row.toRowW d [] (fun f vs => PySem.call f vs) := by
  refine Att.attach_call hn hdf fun w s₀ s₁ mg mb fa o pm cd doc a vs ns G Y ho hd hcd hmg hobj hints hlen hg => ?_
  obtain ⟨K, fd, sp, KX, hb, hsp, hF⟩ := F w mg fa _ Y G.T.g hmg
  exact law_callG KX G.T.g G.T.b G.T.builtins G.T.nolimit hg hobj hints (Nat.le_trans hlen hn2) hr hF hb fun H hO hS => hsp H a ns hlen hO hS
end Ba

set_option maxHeartbeats 400000
/-! o.m(..) inside a try: what it lets out, told by the slots. -/
namespace Ba
open PySem PySem.Spec PyProof.Rows L2
def tMetS (C : Addr) (m : Str) (sp : Sp) (E : L2.St → XK) (ta : TE) (t : TA) : TE := fun σ H Q => ta σ H fun x H1 => ∃ a dx fs, x = .ref a ∧ H1 a = some (.ins C dx fs) ∧ fs.lookup m = none ∧ t σ H1 fun vs H2 => sp (x :: vs) H2 Q (E σ)
section
variable {X : Cx} {k : Nat} {C : Addr} {ps : List Str} {sp : Sp} {E : L2.St → XK} {m : Str} {pos apos : Pos} {e o : Expr} {es : List Expr} {ta : TE} {t : TA}
theorem pe_metS {pl : Sem Bool} (he : PE X o ta) (c : Cls X.K C) (D : MetOk X.prog X.w X.K X.mg X.base C m k ps [] sp) (hr : Room k X.A) (hx : ∀ σ, PassesAt (L2N.CX X.prog X.w) X σ (E σ)) (ha : PA X (e :: es) t)
    (h1 : starEach (e :: es) X.env = (false, eval e X.env) :: starEach es X.env := by rfl) (h2 : (backTo pos (starEach es X.env)).any (·.1) = false := by rfl)
    (h3 : eval (.Call (.Attribute o m apos) (e :: es) [] pos) X.env = (do
      let r ← eval o X.env
      standAt apos.atName
      let (g, one) ← holding [r] (getMethod r m pl)
      callWith pos g one (backTo pos (starEach (e :: es) X.env)) (backToKw pos (keywordEach [] X.env))) := by rfl) :
    PE X (.Call (.Attribute o m apos) (e :: es) [] pos) (tMetS C m sp E ta t) := by
  obtain ⟨f, fd, ds, F, hm, hb, hd⟩ := D
  cases hd
  constructor
  intro pins s σ H Q I h
  refine PySem.W.methodCall_KW (pl := pl) (thn (he.run pins s σ H _ I h) fun u s1 z => ?_) h3
  obtain ⟨x, H1, I1, rx, a, dx, fs, rfl, ea, l, q⟩ := z
  cases (show u = Value.ref a from rx)
  refine getmeth_ok I1 ea c hm l (PySem.W.callWith_K (first := [.ref a]) (h₀ := X.base) I.ok.mod.kin hm.kp (thn (ha.run pos pins s1 σ H1 _ I1 q) fun us s2 z2 => ?_) h1 h2)
  obtain ⟨vs, H2, I2, r, q2⟩ := z2
  exact ⟨I2.kIn, run_fnS (us := .ref a :: us) (vs := .ref a :: vs) F hr hb (hx σ) I2 (.cons rfl r) q2⟩
end
end Ba

set_option maxHeartbeats 400000
/-! Lists walked while an exception is handled. -/
namespace Ba
open PySem PySem.Spec PyProof.Rows L2 L2H
section
variable {prog : Program} {w : World} {A : Around} {E : Value → Shared → Prop} {s : Shared}
theorem list_end_hot {it l x1 : Addr} {i : Nat} {items : Array Value} {Q : Option Value → Shared → Prop} (hot : HotX.HotAt A x1 s.heap) (hit : s.heap.IsListIter it l i) (hl : s.heap.IsList l items) (hx : items[i]? = none) (hne : x1 ≠ it)
    (hQ : ∀ h', Heap.ExtBut it s.heap h' → Q none { s with heap := h' }) : wpAny (model prog w) A (pyNext (.ref it)) Q E s := by
  obtain ⟨hh, o1, vs1, h1, d1, c1⟩ := hot
  obtain ⟨o, ho, hc, hd⟩ := id hit
  obtain ⟨ol, hol, _, nl, hdl⟩ := hl
  unfold pyNext
  refine wpAny_bind (wpAny_attempt (wpAny_callSpecial?_slot (name := Str.ofString "__next__") hit.typeIs slot_listiter_next (wpAny_call_entry slot_listiter_next hit.typeIs entry_listiter_next ?_ (args_listiter_next _))))
  change wpAny _ _ (field (.ref it) 0 >>= _) _ _ s
  refine wpAny_bind (wpAny_field ho hd (x := .ref l) rfl ?_)
  change wpAny _ _ (if (Value.ref l == Value.none) = true then _ else _) _ _ s
  rw [if_neg (show ¬ ((Value.ref l == Value.none) = true) from Bool.false_ne_true)]
  change wpAny _ _ (field (.ref it) 1 >>= _) _ _ s
  refine wpAny_bind (wpAny_field ho hd (x := .int i 0) rfl ?_)
  change wpAny _ _ (seqItems? (.ref l) >>= _) _ _ s
  refine wpAny_bind (wpAny_seqItems hol hdl ?_)
  simp only [Int.toNat_natCast, hx]
  refine wpAny_bind (wpAny_rule (wpAny_bind (wpAny_setField ho hd (by simp) ?_)))
  change wpAny _ _ (newExc (.type "StopIteration") [] >>= _) _ _ _
  refine wpAny_bind ?_
  simp only [newExc, newTuple]
  refine wpAny_bind (wpAny_newObj_type ?_ (by size_fits))
  refine wpAny_bind (m := firstArgMember _ _) (wpAny_of_eq (a := Value.none) (by first | rfl | (simp only [firstArgMember]; rfl)) ?_)
  refine wpAny_newObj_type ?_ (by size_fits)
  have h1' : (s.heap.update it (Obj.mapFields (·.setIfInBounds 0 Value.none))).get? x1 = some o1 := by rw [Heap.get?_update_other _ _ (Ne.symm hne)]; exact h1
  refine HotX.raiseNew_hot ⟨hh, o1, vs1, Heap.get?_push_of_some _ (Heap.get?_push_of_some _ h1'), d1, c1⟩ (Nat.ne_of_lt (Heap.lt_size (Heap.get?_push_of_some _ h1'))) (Heap.get?_push_size _ rfl) rfl (by first | (simp; done) | (simp; omega) | (simp only [Array.size_append]; simp; omega)) ?_
  refine wpAny_bind (wpAny_isInstance (T := "StopIteration") (b := true) ⟨_, Heap.get?_update_self _ (Heap.get?_push_size _ rfl) rfl, rfl⟩ isSubtype_stop ?_)
  refine wpAny_pure (hQ _ ?_)
  intro b o hb e
  have e1 : (s.heap.update it (Obj.mapFields (·.setIfInBounds 0 Value.none))).get? b = some o := by rw [Heap.get?_update_other _ _ (Ne.symm hb)]; exact e
  rw [Heap.get?_update_other _ _ (Nat.ne_of_gt (Heap.lt_size (Heap.get?_push_of_some _ e1)))]
  exact Heap.get?_push_of_some _ (Heap.get?_push_of_some _ e1)
end
theorem turn_listH {P : Program} {w : World} {K : PySem.W.Frag} {tg : Expr} (a it : Addr) : TurnH P w K tg (Itl K a) [it] it (fun i h => h.IsListIter it a i) where
  mem := List.mem_singleton.mpr rfl
  obj := by
    intro i h st b hb
    cases List.mem_singleton.mp hb
    obtain ⟨o, e, c, d⟩ := st
    exact ⟨o, e, fun v z => by rw [d] at z; cases z⟩
  keep := fun i h h' st k => st.at fun o e => k it (List.mem_singleton.mpr rfl) o e
  item := by
    intro X hP hw hK hc i pins s σ H E I hf st hg
    subst hP hw hK
    obtain ⟨xs, x, hq, hx⟩ := hg
    obtain ⟨its, rv, p, hz⟩ := I.list hq
    obtain ⟨u, hu, ru⟩ := rv.get hx
    obtain ⟨f0, f1, f2, f3, f4, f5⟩ := hf it (List.mem_singleton.mpr rfl)
    refine wpAny_pyNext_list_item st p.isList (x := u) (by simpa using hu) fun h' st' sb => ?_
    obtain ⟨o, e, c, d⟩ := id st'
    refine ⟨u, rfl, go_of (s := { s with heap := h' }) e c d (by decide) ⟨x, H, I.turned (t' := s.toks) (fun b o hb e => (sb.2 b hb).trans e) f0 f1 f3 f4 f5, ru, ⟨rfl, fun ys hy => ?_⟩, st', fun b hb => (hf b hb).1⟩⟩
    have I1 : L2.Inv X pins σ H { s with heap := h' } := I.turned (t' := s.toks) (fun b o hb e => (sb.2 b hb).trans e) f0 f1 f3 f4 f5
    rw [I.list_inj hy hq]
    exact hx
  done := by
    intro X hP hw hK hc i pins s σ H E I hf st hg
    subst hP hw hK
    obtain ⟨xs, hq, hx⟩ := hg
    obtain ⟨its, rv, p, hz⟩ := I.list hq
    obtain ⟨f0, f1, f2, f3, f4, f5⟩ := hf it (List.mem_singleton.mpr rfl)
    have hl := rv.length
    obtain ⟨q, ⟨hh, v1, e1, c1⟩, hp⟩ := hc
    have hpin := I.pin q (List.mem_append_left _ hp)
    exact list_end_hot ⟨hh, q.2, v1, hpin.1, e1, c1⟩ st p.isList (by simp; omega) (f5 q (List.mem_append_left _ hp)) fun h' eb => ⟨rfl, I.turned (t' := s.toks) (fun b o hb e => eb b o hb e) f0 f1 f3 f4 f5⟩
  self := fun _ _ _ _ _ st h => wpAny_pyIter_listiter st h
section
variable {X : Cx} {tg : Expr}
theorem pi_listH {l : Expr} {tl : TE} (hl : PE X l tl) : PIH X tg l (iList X.K tl) := by
  constructor
  intro pins s σ H R I h
  refine thn (hl.run pins s σ H _ I h) fun v s1 z => ?_
  obtain ⟨x, H1, I1, r1, a, rfl, ⟨xs, hq⟩, q⟩ := z
  cases r1
  obtain ⟨its, rv, p, hz⟩ := I1.list hq
  refine wpAny_pyIter_list p.isList ⟨s1.heap.objs.size, [s1.heap.objs.size], _, _, H1, rfl, I1.kept (t' := s1.toks) fun b o e => Heap.get?_push_of_some _ e, turn_listH a _, ⟨_, Heap.get?_push_size _ rfl, rfl, rfl⟩, fun b hb => ?_, q⟩
  cases List.mem_singleton.mp hb
  exact I1.fpOk (Nat.le_refl _) (I1.hok.fresh (Nat.le_refl _))
end
/-- the context of a block while an exception is handled -/
abbrev blkH (X : Cx) (s : Shared) (H : Hp) (scope : Scope) (ce : Env) (fp : List Addr) : Cx := { X.blk s H scope ce fp with pn := X.pn }
section
variable {X : Cx} {pins : List (Addr × Obj)} {σ : L2.St} {H : Hp} {s : Shared}
theorem inv_pn {pl : List (Addr × Obj)} (I : L2.Inv X pins σ H s) (h : ∀ p ∈ pl ++ pins, s.heap.get? p.1 = some p.2 ∧ H p.1 = none ∧ p.1 ≠ X.env.locals ∧ p.1 ∉ X.fs ∧ ∀ v, p.2.data ≠ .cell v) : L2.Inv { X with pn := pl } pins σ H s :=
  ⟨⟨I.ok.mod, I.ok.kind, I.ok.glob, I.ok.blt, I.ok.above, I.ok.inj, I.ok.has, I.ok.cab, I.ok.hd, I.ok.frames, I.ok.stk, I.ok.exf, I.ok.bs, I.ok.bsz, I.ok.noex, I.ok.exfs, I.ok.funs, I.ok.frf⟩, I.os, I.bare, I.base, I.loc, I.cell, I.free, I.freeC, h, I.hok, I.len⟩
theorem lcH_core {Q : VK} {elt tg iter : Expr} {ifs : List Expr} {scope : Scope} {own : List (Str × Nat)} {pos pos' : Pos} {wi : TI} {g : TG} {tt : TT} {te : TE} {use : Option (Value → Sem Unit)} {Qf : Value → Shared → Prop}
    (hot : HotC X) (nd : X.N.Nodup) (stk : X.stack = X.env :: X.outer) (frm : X.env.frame = some X.env.locals) (I : L2.Inv X pins σ H s) (hi : PIH X tg iter wi) (ok : BlkOk X.N X.env.scope scope own)
    (hg : ∀ (t : Shared) (G : Hp) (C : Addr) (cl : List (Str × Addr)) (fp : List Addr), PG (blkH X t G scope (compEnvC scope cl C X.env) fp) tg g)
    (ht : ∀ (t : Shared) (G : Hp) (C : Addr) (cl : List (Str × Addr)) (fp : List Addr), PTs (blkH X t G scope (compEnvC scope cl C X.env) fp) ifs tt)
    (he : ∀ (t : Shared) (G : Hp) (C : Addr) (cl : List (Str × Addr)) (fp : List Addr), PE (blkH X t G scope (compEnvC scope cl C X.env) fp) elt te)
    (fold : ∀ x, foldedSetIterable iter X.env x = pure x) (h : tLc wi g tt te (own.map (·.2)) σ H Q)
    (fin : ∀ D ce s' m G, L2.Inv X pins σ G s' → Q (.ref D) G → s'.heap.Ns ce.locals m → FpOk X pins G ce.locals → compEnds (model X.prog X.w) X.A X.xe use Qf (.ref D) ce (.ok .next) s') :
    wpAny (model X.prog X.w) X.A (comprehension (.ListComp elt [⟨tg, iter, ifs, 0⟩] scope pos) scope X.env pos' (newList []) false (eval iter X.env) use) Qf X.xe s := by
  have capt : ∀ y ∈ scope.names, y.2 = .free → ∃ c, X.env.cells.lookup y.1 = some c := fun y hy e => I.ok.has _ ((ok.free y hy e).imp id id)
  refine comprehension_at (use := use) rfl fold (closure_ok capt) ok.kind (fun y hy e => by rw [ok.uniq y hy, e]) ?_
  refine thn (hi.run pins s σ H _ I h) fun xv s1 hx => thn hx fun itv s2 ⟨it, fp, tn, J, H2, e, I2, T, st2, f2, q⟩ => ?_
  subst e
  refine wpAny_newObj_type (newEnv_comp ?_) (by show 0 ≤ sizeLine; decide)
  obtain ⟨D, hD⟩ : ∃ D, D = s2.heap.objs.size := ⟨_, rfl⟩
  have freshD : H2 D = none := I2.hok.fresh (Nat.le_of_eq hD.symm)
  obtain ⟨V0, ⟨m0, v0⟩, turn⟩ := q D freshD
  rw [← hD]
  obtain ⟨s3, hs3⟩ : ∃ s3 : Shared, s3 = { s2 with heap := s2.heap.push { cls := .type "list", data := .seq ([] : List Value).toArray } } := ⟨_, rfl⟩
  have h3 : s3.heap = s2.heap.push { cls := .type "list", data := .seq ([] : List Value).toArray } := by rw [hs3]
  obtain ⟨H3, hH3⟩ : ∃ H3 : Hp, H3 = upd H2 D (.lst []) := ⟨_, rfl⟩
  rw [← hH3] at v0
  have I3 : L2.Inv X pins σ H3 s3 := by
    rw [hs3, hH3]
    exact I2.laid (t' := s2.toks) (fun b o e => Heap.get?_push_of_some _ e) (Nat.le_of_eq hD.symm) ⟨Nat.zero_le _, [], 0, .nil, by rw [hD]; exact Heap.get?_push_size _ rfl⟩
  have f3 : ∀ b ∈ fp, FpOk X pins H3 b ∧ b < s3.heap.objs.size := fun b hb => by
    obtain ⟨o, eo, _⟩ := T.obj _ _ st2 b hb
    have lt := Heap.lt_size eo
    have nD : b ≠ D := by rw [hD]; exact Nat.ne_of_lt lt
    refine ⟨⟨by rw [hH3, upd_ne nD]; exact (f2 b hb).1, (f2 b hb).2⟩, ?_⟩
    rw [h3, Heap.size_push]
    exact Nat.lt_succ_of_lt lt
  have I4' := block_start I3 ok nd f3
  rw [← hs3]
  obtain ⟨ce, hce⟩ : ∃ ce, ce = compEnvC scope (cellsFrom (s3.heap.objs.size + 1) scope.names (cloFrom X.env.cells scope.names [])) s3.heap.objs.size X.env := ⟨_, rfl⟩
  have pg : PG (blkH X s3 H3 scope ce fp) tg g := by rw [hce]; exact hg _ _ _ _ _
  have pt : PTs (blkH X s3 H3 scope ce fp) ifs tt := by rw [hce]; exact ht _ _ _ _ _
  have pe : PE (blkH X s3 H3 scope ce fp) elt te := by rw [hce]; exact he _ _ _ _ _
  have cL : ce.locals = s3.heap.objs.size := by rw [hce]; rfl
  rw [← hce] at I4'
  obtain ⟨s4, hs4⟩ : ∃ s4 : Shared, s4 = { s3 with heap := pushCells (s3.heap.push { cls := .type "dict", data := .dict #[] }) scope.names } := ⟨_, rfl⟩
  rw [← hs4] at I4'
  have I4 : L2.Inv (blkH X s3 H3 scope ce fp) [] (wipe σ (own.map (·.2))) H3 s4 := inv_pn I4' fun p hp => by
    have hp : p ∈ X.pn := by simpa using hp
    obtain ⟨z1, z2, z3, z4, z5⟩ := I3.pin p (List.mem_append_left _ hp)
    refine ⟨by rw [hs4]; exact pushCells_keeps _ _ _ _ (Heap.get?_push_of_some _ z1), z2, by show p.1 ≠ ce.locals; rw [cL]; exact Nat.ne_of_lt (Heap.lt_size z1), ?_, z5⟩
    show p.1 ∉ frs X.stack
    rw [stk]
    unfold frs
    rw [List.filterMap_cons, frm]
    exact fun z => (List.mem_cons.mp z).elim z3 z4
  have goal : codeAny (model X.prog X.w) X.A (.compStart (.ListComp elt [⟨tg, iter, ifs, 0⟩] scope pos) 0 (.ref it) (.ref D) ce) (compEnds (model X.prog X.w) X.A X.xe use Qf (.ref D) ce) s4 := by
    have st3 : tn 0 s3.heap := T.keep _ _ _ st2 fun b _ o e => by rw [h3]; exact Heap.get?_push_of_some _ e
    have st4 : tn 0 s4.heap := T.keep _ _ _ st3 fun b _ o e => by rw [hs4]; exact pushCells_keeps _ _ _ _ (Heap.get?_push_of_some _ e)
    have nfp : ∀ b ∈ fp, H3 b = none := fun b hb => (f3 b hb).1.1
    have hotB : HotC (blkH X s3 H3 scope ce fp) := hot
    have stat : ∀ {τ : L2.St} {G : Hp} {t : Shared}, L2.Inv (blkH X s3 H3 scope ce fp) [] τ G t → (∀ b ∈ fp, G b = none) → ∀ b ∈ fp, FpOk (blkH X s3 H3 scope ce fp) [] G b := fun {τ G t} J' hn b hb =>
      ⟨hn b hb, (J'.ok.exf b hb).1, J'.ok.exfs b hb, .inl hb, fun x c e => (J'.ok.exf b hb).2 x c e, fun p hp => (f3 b hb).1.2.2.2.2.2 p (List.mem_append_left _ (by simpa using hp))⟩
    have back : ∀ {pl : List (Addr × Obj)} {τ : L2.St} {G : Hp} {t : Shared}, L2.Inv (blkH X s3 H3 scope ce fp) pl τ G t → L2.Inv X pins σ G t ∧ FpOk X pins G ce.locals ∧ ∃ m, t.heap.Ns ce.locals m := fun {pl τ G t} J' => by
      have noC : G ce.locals = none := J'.free
      obtain ⟨m, hn, _⟩ := J'.loc
      refine ⟨I3.call' (ch := fp) J'.os J'.base J'.hok J'.bare fun b hb => ?_, I3.fpOk (by rw [cL]; exact Nat.le_refl _) noC, m, hn⟩
      obtain ⟨_, z1, _, z3, z4, z5⟩ := (f3 b hb).1
      exact ⟨z3, z1, z4, z5⟩
    have loop : codeAny (model X.prog X.w) X.A (.compLoop (.ListComp elt [⟨tg, iter, ifs, 0⟩] scope pos) 0 (.ref it) (.ref D) ce) (compEnds (model X.prog X.w) X.A X.xe use Qf (.ref D) ce) s4 := by
      refine compLoop_any (fun n t => ∃ i G, L2.Inv (blkH X s3 H3 scope ce fp) [] (wipe σ (own.map (·.2))) G t ∧ tn i t.heap ∧ (∀ b ∈ fp, G b = none) ∧ V0 i n G) ?_ m0 ⟨0, H3, I4, st4, nfp, v0⟩
      rintro n t5 ⟨i, G5, I5, st5, n5, w5⟩
      rcases turn i n G5 w5 with ⟨stop, qq⟩ | ⟨go, Nx, hNx, step⟩
      · refine thnF (T.done (blkH X s3 H3 scope ce fp) rfl rfl rfl hotB i [] t5 _ G5 (fun _ _ => False) I5 (stat I5 n5) st5 stop) fun r t6 hr => ?_
        obtain ⟨rfl, I6⟩ := hr
        obtain ⟨I7, fC, m, hn⟩ := back I6
        exact fin D ce t6 m G5 I7 qq hn fC
      · refine thnF (T.item (blkH X s3 H3 scope ce fp) rfl rfl rfl hotB i [] t5 _ G5 (fun _ _ => False) I5 (stat I5 n5) st5 go) fun r t6 hr => ?_
        obtain ⟨u, rfl, h6⟩ := hr
        refine thnF h6 fun _ t7 ⟨x, G7, I7, r7, y7, st7, n7⟩ => ?_
        refine thnF (pg.run _ t7 _ G7 x u _ (I7.pinned (stat I7 n7) (T.obj _ _ st7)) r7 (step x G7 y7)) fun _ t8 ⟨σ8, G8, I8, hw8, q8⟩ => ?_
        refine thnF (pt.run _ t8 σ8 G8 _ I8 q8) fun b t9 ⟨G9, I9, q9⟩ => ?_
        have ends : ∀ {t' : Shared} {G' : Hp}, L2.Inv (blkH X s3 H3 scope ce fp) ([] ++ pinsAt fp t7.heap) σ8 G' t' → Nx G' → ∃ m, m < n ∧ ∃ i G, L2.Inv (blkH X s3 H3 scope ce fp) [] (wipe σ (own.map (·.2))) G t' ∧ tn i t'.heap ∧ (∀ b ∈ fp, G b = none) ∧ V0 i m G := fun {t' G'} J' nx => by
          obtain ⟨m', less, v'⟩ := hNx G' nx
          have held : ∀ b ∈ fp, ∀ o, t7.heap.get? b = some o → t'.heap.get? b = some o ∧ G' b = none := fun b hb o e => by
            obtain ⟨z1, z2, _⟩ := J'.pin (b, o) (List.mem_append_right _ (List.mem_append_right _ (mem_pinsAt hb e)))
            exact ⟨z1, z2⟩
          refine ⟨m', less, i + 1, G', (J'.unpinned (pins := [])).weak (by rw [← hw8, wipe_length]) (fun j v e => ?_), T.keep _ _ _ st7 fun b hb o e => (held b hb o e).1, fun b hb => ?_, v'⟩
          · rw [← hw8] at e
            exact (wipe_some e).1
          · obtain ⟨o, e, _⟩ := T.obj _ _ st7 b hb
            exact (held b hb o e).2
        cases b with
        | true =>
          simp only [if_true] at q9 ⊢
          refine thnF (pe.run _ t9 σ8 G9 _ I9 q9) fun z t10 hz => ?_
          obtain ⟨yv, G10, I10, r10, acc, eD, szD, nx⟩ := hz
          exact app_ok (X := blkH X s3 H3 scope ce fp) I10 eD szD r10 fun t11 I11 => ends I11 nx
        | false =>
          simp only [Bool.false_eq_true, if_false] at q9 ⊢
          exact ends I9 q9
    exact codeAny_compStart_list loop (T.self X.A 0 _ _ _ st4 loop)
  rw [hs4] at goal
  rw [hce] at goal
  exact goal
/-- name = [..] on one line, while an exception is handled -/
theorem ps_setLcH {i : Nat} {y : Str} {py : Pos} {elt tg iter : Expr} {ifs : List Expr} {scope : Scope} {own : List (Str × Nat)} {pos spos : Pos} {wi : TI} {g : TG} {tt : TT} {te : TE} (hot : HotC X) (nd : X.N.Nodup) (stk : X.stack = X.env :: X.outer) (frm : X.env.frame = some X.env.locals)
    (hy : X.N[i]? = some y) (hyl : X.env.scope.names.lookup y = some .local) (hsw : swapsWith (.ListComp elt [⟨tg, iter, ifs, 0⟩] scope pos) (some (.Name y py)) spos.line X.env = pure true) (hi : PIH X tg iter wi) (ok : BlkOk X.N X.env.scope scope own)
    (hg : ∀ (t : Shared) (G : Hp) (C : Addr) (cl : List (Str × Addr)) (fp : List Addr), PG (blkH X t G scope (compEnvC scope cl C X.env) fp) tg g)
    (ht : ∀ (t : Shared) (G : Hp) (C : Addr) (cl : List (Str × Addr)) (fp : List Addr), PTs (blkH X t G scope (compEnvC scope cl C X.env) fp) ifs tt)
    (he : ∀ (t : Shared) (G : Hp) (C : Addr) (cl : List (Str × Addr)) (fp : List Addr), PE (blkH X t G scope (compEnvC scope cl C X.env) fp) elt te)
    (fold : ∀ x, foldedSetIterable iter X.env x = pure x := by intro _; rfl) :
    PS X (.Assign [.Name y py] (.ListComp elt [⟨tg, iter, ifs, 0⟩] scope pos) spos) (tAsg (tLc wi g tt te (own.map (·.2))) (gName i)) := by
  constructor
  intro pins s σ H D I h
  rw [exec_Assign_Name_used _ _ _ _ hsw]
  refine wpAny_bind (wpAny_standAt (wpAny_bind ?_))
  change wpAny _ X.A (do
    let _ ← comprehension (.ListComp elt [⟨tg, iter, ifs, 0⟩] scope pos) scope X.env (firstIterPos [⟨tg, iter, ifs, 0⟩] pos) (newList []) false (eval iter X.env) (some (assign (.Name y py) X.env))) _ _ s
  have h2 : tLc wi g tt te (own.map (·.2)) σ H (fun x G => gName i x σ G D.nx) := h
  refine wpAny_bind (thn (lcH_core (Qf := fun _ s' => SP X pins D .next s') hot nd stk frm I hi ok hg ht he fold h2 fun L ce s' m G I' q hn f => ?_) fun _ _ hq => wpAny_pure (wpAny_pure hq))
  obtain ⟨f0, f1, f2, f3, f4, f5⟩ := f
  show wpAny _ _ (assign (.Name y py) X.env (.ref L)) _ _ _
  refine wpAny_assign_Name (store_ok2 (v := V.ref L) I' nd hy (.inl hyl) rfl (fun s2 I2 hst => ?_) (.inr hyl))
  obtain ⟨a, sb, ha⟩ := hst
  have nCa : ce.locals ≠ a := by
    rcases ha with rfl | z
    · exact f1
    · exact fun e => f4 y a z e.symm
  exact ⟨m, hn.sameBut sb nCa, fun h3 sb3 => ⟨_, G, I2.turned (t' := s2.toks) (fun b o hb e => (sb3.2 b hb).trans e) f0 f1 f3 f4 f5, q⟩⟩
end
end Ba

set_option maxHeartbeats 400000
/-! A def that is called with the exception that is handled. -/
namespace Ba
open PySem PySem.Spec PyProof.Rows L2 L2H
/-- what is known of the handled exception's object -/
def ZH (cls : Value) (d : Option Addr) (o : Obj) : Prop := Zc cls d o ∧ ∃ vs, o.data = .fields vs
structure FnP (P : Program) (w : World) (K : PySem.W.Frag) (mg : Str → Option Value) (base : Heap) (CX : CXT) (k : Nat) (f : Addr) (fd : FuncData) (ps : List Str) (sp : Addr → Value → Option Addr → Sp) : Prop where
  len : ∀ a cls d vs H Q E, sp a cls d vs H Q E → vs.length = ps.length
  run : ∀ (A : Around) (outer : List Env) (s : Shared) (H : Hp) (args : Args) (us : List Value) (vs : List V) (Q : VK) (E : XK) (p : Addr × Obj) (cls : Value) (d : Option Addr), RoomH k A → Hot1 A p → ZH cls d p.2 → PinOk outer H s p → Env0 P w K mg base A outer s H → BindsTo s fd args (ps.zip us) → Vals vs us → sp p.1 cls d vs H Q E →
    codeAny (model P w) A (.call (.ref f) args) (CR CX outer P w H s Q E) s
section
variable {P : Program} {w : World} {K : PySem.W.Frag} {mg : Str → Option Value} {base : Heap} {x qual : Str} {st : Stmt} {f : Addr} {fd : FuncData} {ps N : List Str} {k : Nat} {sp : Addr → Value → Option Addr → Sp} {CX : CXT}
theorem okP (F : FunS K x qual st [] [] f fd) (S : FnScope N ps (defScope st)) (len : ∀ a cls d vs H Q E, sp a cls d vs H Q E → vs.length = ps.length)
    (hbody : ∀ (cdv : Value) (A : Around) (outer : List Env) (s : Shared) (H : Hp) (vs : List V) (Q : VK) (E : XK) (p : Addr × Obj) (cls : Value) (d : Option Addr), Hot1 (A.deeper (envOfC qual (defScope st) s.heap.objs.size f cdv)) p → ZH cls d p.2 → RoomH k (A.deeper (envOfC qual (defScope st) s.heap.objs.size f cdv)) → sp p.1 cls d vs H Q E →
      ∃ t, PSs (cxH CX P w K mg base N qual (defScope st) f cdv A outer s H E p) (defBody st) t ∧ t { nx := fun _ H' => Q .non H', rt := Q } (L2.start N vs) H) : FnP P w K mg base CX (k + 1) f fd ps sp := by
  obtain ⟨oc, od, dV, kV, doc, pm, an, cdv, ct, osl, rfl, lk, hcd, _, _⟩ := F.ex
  refine ⟨len, fun A outer s H args us vs Q E p cls d hr hot hz pin e0 hb r hsp => ?_⟩
  have hl := len _ _ _ _ _ _ _ hsp
  have up : ∀ (b : Addr) (o : Obj), base.get? b = some o → s.heap.get? b = some o := fun b o e => (e0.bs b o e).1
  have inK : K.In s.heap := e0.mod.kin.keeps up
  have noL : s.heap.NoLimit := e0.mod.nolimit.keeps up
  refine codeAny_call_function hr.depth (inK _ _ lk) rfl S.co S.gen rfl (PySem.W.codeRec_of inK hcd) (hb _ _ _ _ ?_)
  refine wpAny_newFunctionEnv_cells S.kind (fun y hy => ?_) fun env ee s1 z => ?_
  · obtain ⟨n, v⟩ := y
    cases S.par n (List.of_mem_zip hy).1 with
    | inl q => exact Or.inl q
    | inr q => exact Or.inr ⟨q, PySem.W.cellsFrom_some _ _ _ (Or.inl q)⟩
  · subst ee
    have hot' : Hot1 (A.deeper (envOfC qual (defScope st) s.heap.objs.size f cdv)) p := by
      first | exact hot | exact ⟨by have := hot.1; simpa [Around.deeper] using this, hot.2⟩
    obtain ⟨t, ht, hq⟩ := hbody cdv A outer s H vs Q E p cls d hot' hz (hr.deeper _) hsp
    refine ⟨noL.keeps z.toInCall.keep, codeAny_func (wpAny_mono (ht.run [] s1 (L2.start N vs) H _ (inv_startH S pin e0 hl r z) hq) (fun fl s' hs => ?_) fun _ _ hs => hs)⟩
    cases fl with
    | brk => obtain ⟨_, _, _, q⟩ := hs; exact False.elim q
    | cont => obtain ⟨_, _, _, q⟩ := hs; exact False.elim q
    | next =>
      obtain ⟨σ', H', J, q⟩ := hs
      exact ⟨.non, H', J.os, J.bare, J.base, J.hok, rfl, q⟩
    | ret u =>
      obtain ⟨v, σ', H', J, rv, q⟩ := hs
      exact ⟨v, H', J.os, J.bare, J.base, J.hok, rv, q⟩
end
section
variable {X : Cx} {CX : CXT} {k : Nat} {f : Addr} {fd : FuncData} {ps : List Str} {sp : Addr → Value → Option Addr → Sp} {E : XK} {x : Str} {np pos : Pos} {e : Expr} {es : List Expr} {t : TA}
def tCallP (a : Addr) (cls : Value) (d : Option Addr) (sp : Addr → Value → Option Addr → Sp) (E : XK) (t : TA) : TE := fun σ H Q => t σ H fun vs H1 => sp a cls d vs H1 Q E
theorem pe_callP {p : Addr × Obj} {cls : Value} {d : Option Addr} (F : FnP X.prog X.w X.K X.mg X.base CX k f fd ps sp) (hr : RoomH k X.A) (hot : Hot1 X.A p) (hp : p ∈ X.pn) (hz : ZH cls d p.2) (hg : Gl X x) (hm : X.mg x = some (.ref f)) (hk : PySem.W.keepIn X.K (.ref f) = true) (hb : Binds X.K fd ps []) (hx : Passes CX X E)
    (ha : PA X (e :: es) t) (hdb : (x == ("__debug__" : Str)) = false := by decide) (h1 : starEach (e :: es) X.env = (false, eval e X.env) :: starEach es X.env := by rfl) (h2 : (backTo pos (starEach es X.env)).any (·.1) = false := by rfl) :
    PE X (.Call (.Name x np) (e :: es) [] pos) (tCallP p.1 cls d sp E t) := by
  constructor
  intro pins s σ H Q I h
  refine wpAny_Call_Name_kw (ld_glob I hg hm ?_ hdb)
  refine PySem.W.callWith_K (h₀ := X.base) I.ok.mod.kin hk (thn (ha.run pos pins s σ H _ I h) fun us s1 z => ?_) h1 h2
  obtain ⟨vs, H1, I1, r, q⟩ := z
  refine ⟨I1.kIn, ?_⟩
  have hl : us.length = ps.length := by rw [← r.length]; exact F.len _ _ _ _ _ _ _ q
  have b := hb s1 us I1.kIn (by rw [List.append_nil]; exact hl)
  rw [List.append_nil] at b
  obtain ⟨z1, z2, z3, z4, z5⟩ := I1.pin p (List.mem_append_left _ hp)
  have hpin : PinOk X.stack H1 s1 p := ⟨z1, z2, fun hm => (List.mem_cons.mp (I1.stkSub p.1 hm)).elim z3 z4, z5⟩
  refine wpAny_call (codeAny_mono (F.run X.A X.stack s1 H1 ⟨us, []⟩ us vs Q E p cls d hr hot hz hpin I1.env0 b r q) fun r' s' hq => ?_)
  cases r' with
  | error e => exact hx pins σ H1 s1 e s' I1 hq
  | ok fl =>
    cases fl with
    | ret u => exact I1.after hq
    | next => exact False.elim hq
    | brk => exact False.elim hq
    | cont => exact False.elim hq
/-- isinstance(e, C), e the handled exception without a dict -/
theorem call_isP {p : Addr × Obj} {D : Addr} (C : ExcC X.K D) (hp : p ∈ X.pn) (hz : ZH (.ref D) none p.2) : CallR X (.builtin "isinstance") (rIsE X.K D p.1) := by
  intro pins s σ H xs us Q I r h
  obtain ⟨c, cv, b, rfl, hcv, e, q⟩ := h
  cases r with
  | cons rx rr =>
    cases rr with
    | cons rt rr =>
      cases rr
      cases rx
      cases hcv _ rt
      have hget := (I.pin p (List.mem_append_left _ hp)).1
      obtain ⟨⟨h1, h2⟩, vs, hv⟩ := hz
      have J : PySem.W.InstAt s.heap p.1 p.2 D none := by
        obtain ⟨a, oc, od, oda, osl⟩ := p
        dsimp only at h1 h2 hv
        subst h1 h2 hv
        exact ⟨hget, rfl, rfl, trivial⟩
      exact PySem.W.kia_one (PySem.W.handS_kitx_exc C.hg C.hk C.hs C.hd C.ha C.hn C.ht C.hm) I.kIn J e (fun z => nomatch z) fun tk => ⟨.bl b, H, I.kept (t' := tk) fun _ _ z => z, rfl, q⟩
end
end Ba

set_option maxHeartbeats 400000
/-! (a, b) = a tuple, while an exception is handled. -/
namespace Ba
open PySem PySem.Spec PyProof.Rows L2 L2H
section
variable {prog : Program} {w : World} {A : Around} {E : Value → Shared → Prop} {s : Shared}
theorem tuple_end_hot {it t x1 : Addr} {i : Nat} {items : Array Value} {Q : Option Value → Shared → Prop} (hot : HotX.HotAt A x1 s.heap) (hit : s.heap.IsTupleIter it t i) (ht : IsTup s.heap t items) (hx : items[i]? = none) (hne : x1 ≠ it)
    (hQ : ∀ h', Heap.ExtBut it s.heap h' → Q none { s with heap := h' }) : wpAny (model prog w) A (pyNext (.ref it)) Q E s := by
  obtain ⟨hh, o1, vs1, h1, d1, c1⟩ := hot
  obtain ⟨o, ho, hc, hd⟩ := id hit
  obtain ⟨ol, hol, _, nl, hdl⟩ := ht
  unfold pyNext
  refine wpAny_bind (wpAny_attempt (wpAny_callSpecial?_slot (name := Str.ofString "__next__") hit.typeIs F.slot_tuple_iterator_next (wpAny_call_entry F.slot_tuple_iterator_next hit.typeIs F.entry_tuple_iterator_next ?_ (F.args_tuple_iterator_next_1 _))))
  change wpAny _ _ (field (.ref it) 0 >>= _) _ _ s
  refine wpAny_bind (wpAny_field ho hd (x := .ref t) rfl ?_)
  change wpAny _ _ (if (Value.ref t == Value.none) = true then _ else _) _ _ s
  rw [if_neg (show ¬ ((Value.ref t == Value.none) = true) from Bool.false_ne_true)]
  change wpAny _ _ (field (.ref it) 1 >>= _) _ _ s
  refine wpAny_bind (wpAny_field ho hd (x := .int i 0) rfl ?_)
  change wpAny _ _ (seqItems? (.ref t) >>= _) _ _ s
  refine wpAny_bind (wpAny_seqItems hol hdl ?_)
  simp only [Int.toNat_natCast, hx]
  refine wpAny_bind (wpAny_rule (wpAny_bind (wpAny_setField ho hd (by simp) ?_)))
  change wpAny _ _ (newExc (.type "StopIteration") [] >>= _) _ _ _
  refine wpAny_bind ?_
  simp only [newExc, newTuple]
  refine wpAny_bind (wpAny_newObj_type ?_ (by size_fits))
  refine wpAny_bind (m := firstArgMember _ _) (wpAny_of_eq (a := Value.none) (by first | rfl | (simp only [firstArgMember]; rfl)) ?_)
  refine wpAny_newObj_type ?_ (by size_fits)
  have h1' : (s.heap.update it (Obj.mapFields (·.setIfInBounds 0 Value.none))).get? x1 = some o1 := by rw [Heap.get?_update_other _ _ (Ne.symm hne)]; exact h1
  refine HotX.raiseNew_hot ⟨hh, o1, vs1, Heap.get?_push_of_some _ (Heap.get?_push_of_some _ h1'), d1, c1⟩ (Nat.ne_of_lt (Heap.lt_size (Heap.get?_push_of_some _ h1'))) (Heap.get?_push_size _ rfl) rfl (by first | (simp; done) | (simp; omega) | (simp only [Array.size_append]; simp; omega)) ?_
  refine wpAny_bind (wpAny_isInstance (T := "StopIteration") (b := true) ⟨_, Heap.get?_update_self _ (Heap.get?_push_size _ rfl) rfl, rfl⟩ isSubtype_stop ?_)
  refine wpAny_pure (hQ _ ?_)
  intro b o hb e
  have e1 : (s.heap.update it (Obj.mapFields (·.setIfInBounds 0 Value.none))).get? b = some o := by rw [Heap.get?_update_other _ _ (Ne.symm hb)]; exact e
  rw [Heap.get?_update_other _ _ (Nat.ne_of_gt (Heap.lt_size (Heap.get?_push_of_some _ e1)))]
  exact Heap.get?_push_of_some _ (Heap.get?_push_of_some _ e1)
theorem unpack_hot {t x1 : Addr} {items : Array Value} {targets : List (Bool × (Value → Sem Unit))} {Q : Unit → Shared → Prop} (hot : HotX.HotAt A x1 s.heap) (ht : IsTup s.heap t items) (hn : targets.length = items.size) (hstar : targets.findIdx? (·.1) = none)
    (h : ∀ h', Heap.ExtBut s.heap.objs.size s.heap h' → wpAny (model prog w) A (assignInOrder (targets.map (·.2)) items.toList) Q E { s with heap := h' }) :
    wpAny (model prog w) A (unpack (.ref t) targets) Q E s := by
  unfold unpack
  rw [hn, hstar]
  refine wpAny_bind (wpAny_holding ?_)
  have lt : t ≠ s.heap.objs.size := by obtain ⟨o, ho, _⟩ := ht; exact Nat.ne_of_lt (Heap.lt_size ho)
  obtain ⟨hh, o1, vs1, h1, d1, c1⟩ := hot
  have ne1 : x1 ≠ s.heap.objs.size := Nat.ne_of_lt (Heap.lt_size h1)
  unfold unpackItems
  refine wpAny_bind ?_
  unfold notIterableAtAll
  refine wpAny_bind (wpAny_specialOf ht.typeIs F.slot_tuple_iter.lookup ?_)
  refine wpAny_pure ?_
  simp only [Bool.false_eq_true, if_false]
  refine wpAny_bind (wpAny_holding (iter_tuple ht ?_))
  refine wpAny_bind (wpAny_holding (draw_tuple lt items.size 0 _ _ ⟨_, Heap.get?_push_size _ rfl, rfl, rfl⟩ (ht.push _) (by omega) fun h2 hit2 hs2 => ?_))
  have all : List.take items.size (List.drop 0 items.toList) = items.toList := by
    rw [List.drop_zero]; exact List.take_of_length_le (by simp)
  rw [all, if_neg (by simp)]
  have ht2 : IsTup h2 t items := (ht.push _).extBut hs2.extBut lt
  have h12 : h2.get? x1 = some o1 := hs2.extBut x1 o1 ne1 (Heap.get?_push_of_some _ h1)
  refine wpAny_bind (wpAny_holding (tuple_end_hot (x1 := x1) ⟨hh, o1, vs1, h12, d1, c1⟩ hit2 ht2 (by simp) ne1 fun h3 he3 => ?_))
  simp only [Option.isSome_none, Bool.false_eq_true, if_false]
  exact wpAny_pure (h h3 fun b o hb e => he3 b o hb (hs2.extBut b o hb (Heap.get?_push_of_some _ e)))
end
section
variable {X : Cx} {pos : Pos}
theorem pg_tupH {es : List Expr} {k : Nat} {t : TGs} {n : Nat} (hot : HotC X) (h : PGs X es t)
    (hn : (assignEach es X.env).length = n := by rfl) (hst : (assignEach es X.env).findIdx? (·.1) = none := by rfl) : PG X (.Tuple es k pos) (gTup X.K n t) := by
  constructor
  intro pins s σ H v u Q I r hw
  obtain ⟨a, xs, rfl, hq, hl, hw⟩ := hw
  cases r
  obtain ⟨its, rv, ht, hz⟩ := I.tuple hq
  obtain ⟨x1, hx1⟩ := hot.at I
  rw [assign_Tuple]
  refine wpAny_bind (wpAny_standAt (unpack_hot hx1 ht (by simp [hn, ← hl, rv.length]) hst fun h' hx => ?_))
  exact h.run pins _ σ H xs _ Q (I.kept (t' := s.toks) fun b o e => hx b o (Nat.ne_of_lt (Heap.lt_size e)) e) (by simpa using rv) hw
end
end Ba

set_option maxHeartbeats 400000
/-! a, *b, c = a list. -/
namespace Ba
open PySem PySem.Spec PyProof.Rows L2 PySem.W
section
variable {prog : Program} {w : World} {A : Around} {E : Value → Shared → Prop} {s : Shared}
theorem starL {l : Addr} {items : Array Value} {n i : Nat} {Q : List Value → Shared → Prop} (hl : s.heap.IsList l items) (hh : A.handled = none) (hi : i < n) (hn : n ≤ items.size + 1) (hz : items.size ≤ sizeLine)
    (h : ∀ h₂ tk, Heap.ExtBut s.heap.objs.size s.heap h₂ → wpAny (model prog w) A (newList ((items.toList.drop i).take (items.size + 1 - n))) (fun d s' => Q (items.toList.take i ++ [d] ++ (items.toList.drop i).drop (items.size + 1 - n)) s') E { s with heap := h₂, toks := tk }) :
    wpAny (model prog w) A (unpackItems (.ref l) n (some i)) Q E s := by
  have hlt : l ≠ s.heap.objs.size := by obtain ⟨o, ho, _⟩ := hl; exact Nat.ne_of_lt (Heap.lt_size ho)
  have hll : l < s.heap.objs.size := by obtain ⟨o, ho, _⟩ := hl; exact Heap.lt_size ho
  unfold unpackItems
  refine wpAny_bind ?_
  unfold notIterableAtAll
  refine wpAny_bind (wpAny_specialOf hl.typeIs F.slot_list_iter.lookup ?_)
  refine wpAny_pure ?_
  simp only [Bool.false_eq_true, if_false]
  refine wpAny_bind (wpAny_holding (wpAny_pyIter_list hl ?_))
  refine wpAny_bind (wpAny_holding (kun_draw hlt i 0 _ _ ⟨_, Heap.get?_push_size _ rfl, rfl, rfl⟩ (hl.push _) (by omega) fun h₁ hit₁ hs₁ => ?_))
  have hl₁ : h₁.IsList l items := (hl.push _).extBut hs₁.extBut hlt
  rw [Nat.zero_add] at hit₁
  have hit₁' := hit₁
  obtain ⟨oi, hoi, _⟩ := hit₁'
  have hl₁' := hl₁
  obtain ⟨ol, hol, _⟩ := hl₁'
  rw [List.drop_zero]
  have hfl : (items.toList.take i).length = i := by rw [List.length_take, Array.length_toList]; omega
  rw [if_neg (show ¬ ((items.toList.take i).length < i) by rw [hfl]; omega)]
  refine wpAny_bind (wpAny_holding (kun_collect (s := { s with heap := h₁ }) (T := "list_iterator") (.inr (.inr (.inl rfl))) (Walks.list (A := A.in1) hh s.heap.objs.size l hlt items) (fun j u st => st.1.typeIs) (k := i) (by omega) ⟨hit₁, hl₁⟩ (Heap.lt_size hoi) (Heap.lt_size hol) (fun h₂ tk hk => ?_) hz))
  have hrl : (items.toList.drop i).length = items.size - i := by rw [List.length_drop, Array.length_toList]
  have hmid : (items.toList.drop i).length - (n - 1 - i) = items.size + 1 - n := by rw [hrl]; omega
  show wpAny _ _ (if (items.toList.drop i).length < n - 1 - i then _ else _) _ _ _
  rw [if_neg (by rw [hrl]; omega)]
  show wpAny _ _ (newList ((items.toList.drop i).take ((items.toList.drop i).length - (n - 1 - i))) >>= fun d => pure (items.toList.take i ++ [d] ++ (items.toList.drop i).drop ((items.toList.drop i).length - (n - 1 - i)))) _ _ _
  rw [hmid]
  have he : Heap.ExtBut s.heap.objs.size s.heap h₂ := fun b o hb e => hk b o hb (hs₁.extBut b o hb (Heap.get?_push_of_some _ e))
  exact wpAny_bind (wpAny_mono (h h₂ tk he) (fun d s' q => wpAny_pure q) fun _ _ z => z)
end
theorem room65 {k : Nat} {A : Around} (r : Room k A) : A.units + 65 < cLine := by
  have := r.un
  omega
/-- a list, of which one target takes the rest as a new list -/
def gStar (K : PySem.W.Frag) (n i : Nat) (t : TGs) : TG := fun v σ H Q => ∃ a xs, v = .ref a ∧ SqL K H a xs ∧ n ≤ xs.length + 1 ∧ ∀ D, H D = none → t (xs.take i ++ [.ref D] ++ (xs.drop i).drop (xs.length + 1 - n)) σ (upd H D (.lst ((xs.drop i).take (xs.length + 1 - n)))) Q
theorem vals_take : ∀ {n : Nat} {xs : List V} {us : List Value}, Vals xs us → Vals (xs.take n) (us.take n)
  | 0, _, _, _ => by simpa using (.nil : Vals [] [])
  | n + 1, _, _, .nil => by simpa using (.nil : Vals [] [])
  | n + 1, _, _, .cons h t => by
    rw [List.take_succ_cons, List.take_succ_cons]
    exact .cons h (vals_take t)
theorem vals_drop : ∀ {n : Nat} {xs : List V} {us : List Value}, Vals xs us → Vals (xs.drop n) (us.drop n)
  | 0, _, _, h => by simpa using h
  | n + 1, _, _, .nil => by simpa using (.nil : Vals [] [])
  | n + 1, _, _, .cons h t => by simpa using vals_drop t
theorem vals_app : ∀ {xs ys : List V} {us vs : List Value}, Vals xs us → Vals ys vs → Vals (xs ++ ys) (us ++ vs)
  | _, _, _, _, .nil, h => h
  | _, _, _, _, .cons a t, h => .cons a (vals_app t h)
section
variable {X : Cx} {pos : Pos}
/-- f'..' of two parts or more, under a name -/
def tJd (ts : List TE) : TE := fun σ H Q => tJs ts Str.empty σ H fun out H1 => Q (.str out) H1
theorem pe_joinedD {v1 v2 : Expr} {rest : List Expr} {ts : List TE} {pos : Pos} (h : PJ X (v1 :: v2 :: rest) ts) : PE X (.JoinedStr (v1 :: v2 :: rest) pos) (tJd ts) := pe_joined h
theorem pgs_star {e : Expr} {es : List Expr} {t : TG} {u : TGs} {p : Pos} (h1 : PG X e t) (h2 : PGs X es u)
    (hs : (assignEach (.Starred e p :: es) X.env).map (·.2) = assign e X.env :: (assignEach es X.env).map (·.2) := by rfl) : PGs X (.Starred e p :: es) (gCons t u) := by
  constructor
  intro pins s σ H vs us Q I r h
  obtain ⟨v, vr, e1, h⟩ := h
  subst e1
  cases r with
  | cons r rr =>
    rw [hs]
    refine assignInOrder_cons (thn (h1.run pins s σ H _ _ _ I r h) fun _ s1 ⟨σ1, H1, I1, q1⟩ => ?_)
    exact h2.run pins s1 σ1 H1 _ _ Q I1 rr q1
theorem pg_star {es : List Expr} {k : Nat} {t : TGs} {n i : Nat} (hc : X.calm = true) (h : PGs X es t)
    (hn : (assignEach es X.env).length = n := by rfl) (hst : (assignEach es X.env).findIdx? (·.1) = some i := by rfl) (hi : i < n := by decide) : PG X (.Tuple es k pos) (gStar X.K n i t) := by
  constructor
  intro pins s σ H v u Q I r hw
  obtain ⟨a, xs, rfl, hq, hl, hw⟩ := hw
  cases r
  obtain ⟨its, rv, ht, hz⟩ := I.list hq
  have hlen := rv.length
  rw [assign_Tuple]
  refine wpAny_bind (wpAny_standAt ?_)
  unfold unpack
  rw [hn, hst]
  refine wpAny_bind (wpAny_holding (starL ht.isList (I.ok.hd hc) hi (by simp; omega) (by simp; omega) fun h₂ tk he => ?_))
  have I1 : Inv X pins σ H { s with heap := h₂, toks := tk } := I.kept (t' := tk) fun b o e => he b o (Nat.ne_of_lt (Heap.lt_size e)) e
  have e1 : its.toArray.size + 1 - n = xs.length + 1 - n := by simp [hlen]
  rw [e1]
  have hf : H h₂.objs.size = none := I1.hok.fresh (Nat.le_refl _)
  have rm := vals_take (n := xs.length + 1 - n) (vals_drop (n := i) rv)
  have rd := vals_drop (n := xs.length + 1 - n) (vals_drop (n := i) rv)
  have zz : ((its.toArray.toList.drop i).take (xs.length + 1 - n)).length ≤ sizeLine := by simp; omega
  show wpAny _ _ (newList _) _ _ _
  unfold newList
  refine wpAny_newObj_type ?_ zz
  refine h.run pins _ σ (upd H h₂.objs.size (.lst ((xs.drop i).take (xs.length + 1 - n)))) _ _ Q (I1.laid (t' := tk) (fun b u e => Heap.get?_push_of_some _ e) (Nat.le_refl _) ?_) ?_ (hw _ hf)
  · exact ⟨by rw [rm.length]; exact zz, _, 0, rm, Heap.get?_push_size _ rfl⟩
  · exact vals_app (vals_app (vals_take rv) (.cons rfl .nil)) rd
end
end Ba

set_option maxHeartbeats 400000
/-! A def called inside a try. -/
namespace Ba
open PySem PySem.Spec PyProof.Rows L2
section
variable {X : Cx} {k : Nat} {ps : List Str} {dvs : List V} {sp : Sp} {E : L2.St → XK} {x : Str} {p pos : Pos} {e : Expr} {es : List Expr} {t : TA}
theorem pe_fnS (D : DefOk X.prog X.w X.K X.mg X.base x k ps dvs sp) (hr : Room k X.A) (hx : ∀ σ, PassesAt (L2N.CX X.prog X.w) X σ (E σ)) (hg : Gl X x) (ha : PA X (e :: es) t) (hdb : (x == ("__debug__" : Str)) = false := by decide)
    (he : starEach (e :: es) X.env = (false, eval e X.env) :: starEach es X.env := by rfl) (hpl : (backTo pos (starEach es X.env)).any (·.1) = false := by rfl) :
    PE X (.Call (.Name x p) (e :: es) [] pos) (tCallSD sp dvs E t) := by
  obtain ⟨f, fd, ds, F, hm, hk, hb, hd⟩ := D
  exact pe_callSD F hr hg hm hk hb hd hx ha hdb he hpl
end
end Ba

set_option maxHeartbeats 4000000
/-! t[::-1], t a tuple. -/
namespace Ba
open PySem PySem.Spec PyProof.Rows L2 HT
section
variable {prog : Program} {w : World} {A : Around} {E : Value → Shared → Prop} {s : Shared}
theorem places_rev (n : Nat) : Builtin.Slice.slicePlaces ((n : Int) - 1) (-1) (-1) = n := by
  unfold Builtin.Slice.slicePlaces
  have h1 : ¬ ((-1 : Int) > 0) := by omega
  simp only [h1, if_false]
  have e : (-(-1) : Int) = 1 := by decide
  rw [e, Int.ediv_one]
  split <;> omega
theorem sliceApplied_rev {sl : Addr} {vs : Value} {n : Nat} {Q : Int × Int × Nat → Shared → Prop} (hs : s.heap.IsSliceOf sl .none .none vs) (ps : IsPart vs (some (-1)))
    (h : Q ((n : Int) - 1, -1, n) s) : wpAny (model prog w) A (Builtin.Slice.sliceApplied (.ref sl) (pure (n : Int))) Q E s := by
  obtain ⟨os, hos, hcs, hds⟩ := id hs
  unfold Builtin.Slice.sliceApplied Builtin.Slice.sliceFields
  refine wpAny_bind (wpAny_bind (wpAny_field hos hds (x := .none) rfl (wpAny_bind (wpAny_field hos hds (x := .none) rfl (wpAny_bind (wpAny_field hos hds (x := vs) rfl (wpAny_pure ?_)))))))
  refine wpAny_bind (slicePart_ ps ?_)
  show wpAny _ _ (if ((-1 : Int) == 0) = true then _ else _) _ _ s
  rw [if_neg (by decide)]
  refine wpAny_bind (slicePart_ .none (wpAny_bind (slicePart_ .none (wpAny_bind (wpAny_pure ?_)))))
  show wpAny _ _ (pure ((n : Int) - 1, (-1 : Int), Builtin.Slice.slicePlaces ((n : Int) - 1) (-1) (-1))) _ _ s
  rw [places_rev]
  exact wpAny_pure h
theorem pick_rev (xs : Array Value) : ((List.range xs.size).filterMap fun (m : Nat) => xs[(((xs.size : Int) - 1) + (m : Int) * (-1)).toNat]?).toArray = xs.toList.reverse.toArray := by
  have e : ((List.range xs.size).filterMap fun (m : Nat) => xs[(((xs.size : Int) - 1) + (m : Int) * (-1)).toNat]?) = ((List.range xs.size).map fun k => xs.size - 1 - k).filterMap (xs[·]?) := by
    rw [List.filterMap_map]
    congr 1
    funext m
    have : (((xs.size : Int) - 1) + (m : Int) * (-1)).toNat = xs.size - 1 - m := by omega
    rw [this]
    rfl
  rw [e, PySem.W.krv_range, List.filterMap_reverse, PySem.W.krv_all]
theorem getItem_tuple_rev {t sl : Addr} {items : Array Value} {vs : Value} {Q : Value → Shared → Prop} (ht : IsTup s.heap t items) (hs : s.heap.IsSliceOf sl .none .none vs) (ps : IsPart vs (some (-1)))
    (h : Q (.ref s.heap.objs.size) { s with heap := s.heap.push { cls := .type "tuple", data := .seq items.toList.reverse.toArray } })
    (hsz : items.size ≤ sizeLine) : wpAny (model prog w) A (getItem (.ref t) (.ref sl)) Q E s := by
  have htake : sizeOk (.seq items.toList.reverse.toArray) := by
    show items.toList.reverse.toArray.size ≤ sizeLine
    rw [List.size_toArray, List.length_reverse, Array.length_toList]
    omega
  obtain ⟨os, hos, hcs, hds⟩ := id hs
  have hTs : s.TypeIs (.ref sl) "slice" := ⟨os, hos, hcs⟩
  unfold getItem
  try with_reducible refine wpAny_holding ?_
  first | refine wpAny_bind (wpAny_pure ?_) | skip
  refine wpAny_bind (wpAny_sequenceKey ht.typeIs (by decide) ?_)
  refine wpAny_bind (wpAny_callSpecial?_slot (name := Str.ofString "__getitem__") ht.typeIs PyProof.Rows.slot_tuple_getitem
    (wpAny_call_entry PyProof.Rows.slot_tuple_getitem ht.typeIs entry_tuple_getitem ?_ (args_tuple_getitem _ _)))
  show wpAny _ _ (Builtin.Tuple.tupleItemsOf (.ref t) >>= _) _ _ s
  refine wpAny_bind (tupleItemsOf_ ht ?_)
  refine wpAny_bind (wpAny_typeOf hTs ?_)
  rw [if_pos (by decide)]
  refine wpAny_bind (sliceApplied_rev hs ps ?_)
  have hno : ¬ ((((items.size : Int) - 1) == 0 && (-1 : Int) == 1 && items.size == items.size) = true) := by
    intro q
    rw [Bool.and_eq_true, Bool.and_eq_true] at q
    exact absurd q.1.2 (by decide)
  show wpAny _ _ (if (((items.size : Int) - 1) == 0 && (-1 : Int) == 1 && items.size == items.size) = true then _ else _) _ _ s
  rw [if_neg hno, pick_rev]
  first
    | exact wpAny_bind (m := Builtin.Tuple.tupleExact _) (wpAny_newObj_type (wpAny_pure ⟨_, rfl, wpAny_pure h⟩) htake)
    | exact wpAny_bind (m := Builtin.Tuple.tupleExact _) (wpAny_newObj_type (wpAny_bind (wpAny_pure (wpAny_pure ⟨_, rfl, wpAny_pure h⟩))) htake)
    | exact wpAny_bind (wpAny_bind (m := Builtin.Tuple.tupleExact _) (wpAny_newObj_type (wpAny_pure (wpAny_pure ⟨_, rfl, wpAny_pure h⟩)) htake))
    | exact wpAny_bind (wpAny_bind (m := Builtin.Tuple.tupleExact _) (wpAny_newObj_type (wpAny_pure ⟨_, rfl, wpAny_pure h⟩) htake))
end
def tRevT (K : PySem.W.Frag) (te : TE) : TE := fun σ H Q => te σ H fun x H1 => ∃ a xs, x = .ref a ∧ SqT K H1 a xs ∧ ∀ p, H1 p = none → Q (.ref p) (upd H1 p (.tup xs.reverse))
theorem pe_revT {X : Cx} {e : Expr} {te : TE} {k : Nat} {p1 p2 p3 pos : Pos} (he : PE X e te) : PE X (.Subscript e (.Slice none none (some (.UnaryOp .USub (.Constant (.int 1) k p1) p2)) p3) pos) (tRevT X.K te) := by
  refine ⟨fun pins s σ H Q I h => ?_⟩
  refine Subscript_ (thn (he.run pins s σ H _ I h) fun v s1 ⟨x, H1, I1, r1, q1⟩ => ?_)
  obtain ⟨a, xs, ex, hx, q⟩ := q1
  subst ex
  cases r1
  have hst : PO X (some (.UnaryOp .USub (.Constant (.int 1) k p1) p2)) (tPart (tUn (rU fun i => .int (-i)) (tC (.int 1)))) := po_some (pe_un un_neg pe_int)
  refine wpAny_Slice (thn (po_none.run pins s1 σ H1 (fun o H2 => o = none ∧ H2 = H1) I1 ⟨rfl, rfl⟩) fun vl s2 ⟨l, H2, I2, pl, el, e2⟩ => ?_)
  subst el e2
  refine thn (po_none.run pins s2 σ H2 (fun o H3 => o = none ∧ H3 = H2) I2 ⟨rfl, rfl⟩) fun vu s3 ⟨u, H3, I3, pu, eu, e3⟩ => ?_
  subst eu e3
  cases pl
  cases pu
  refine thn (hst.run pins s3 σ H3 (fun o H4 => o = some (-1) ∧ H4 = H3) I3 ⟨1, rfl, -1, rfl, rfl, rfl⟩) fun vs s4 ⟨o, H4, I4, ps, eo, e4⟩ => ?_
  subst eo e4
  have I5 : Inv X pins σ H4 { s4 with heap := s4.heap.push { cls := .type "slice", data := .fields #[Value.none, Value.none, vs] } } := I4.kept (t' := s4.toks) fun b ob q => Heap.get?_push_of_some _ q
  obtain ⟨its, r, ht, hz⟩ := I5.tuple hx
  have hlen := r.length
  show wpAny (model X.prog X.w) X.A (subscriptTail e (.Slice none none (some (.UnaryOp .USub (.Constant (.int 1) k p1) p2)) p3) (.ref a) (.ref s4.heap.objs.size)) (EP X pins σ Q) X.xe { s4 with heap := s4.heap.push { cls := .type "slice", data := .fields #[Value.none, Value.none, vs] } }
  refine tail_any (ops := [.ref a, .ref s4.heap.objs.size]) ht.typeIs (PyProof.Rows.slot_tuple_getitem.lookup) ?_ (by with_unfolding_all rfl)
  refine getItem_tuple_rev ht (Heap.IsSliceOf.new _ _ _ vs) ps ?_ (by rw [List.size_toArray]; omega)
  refine ⟨.ref _, _, I5.laid (t' := s4.toks) (o := .tup xs.reverse) (fun b ob q => Heap.get?_push_of_some _ q) (Nat.le_refl _) ?_, rfl, q _ (I5.hok.fresh (Nat.le_refl _))⟩
  exact ⟨by rw [List.length_reverse]; exact hz, its.reverse, r.reverse, ⟨_, Heap.get?_push_size _ rfl, rfl, 0, rfl⟩⟩
end Ba

set_option maxHeartbeats 4000000
namespace Ba
open PySem PySem.Spec PyProof.Rows L2
def topS (i : Nat) : Stmt := PySem.Challenge.pw_berths_k57_timetables_as_text.main.body.getD i (.Pass ⟨0, 0, 0, 0⟩)
abbrev s_NoRoom_init : Stmt := inClass (topS 14) 0
abbrev n_NoRoom_init : List Str := ["self", "on_day", "ship"]
abbrev p_NoRoom_init : List Str := ["self", "on_day", "ship"]
theorem sc_NoRoom_init : FnScope n_NoRoom_init p_NoRoom_init (defScope s_NoRoom_init) := ⟨rfl, rfl, rfl, by decide +kernel, rfl, by decide +kernel, by decide +kernel⟩
abbrev s_TooLong_init : Stmt := inClass (topS 15) 0
abbrev n_TooLong_init : List Str := ["self", "days"]
abbrev p_TooLong_init : List Str := ["self", "days"]
theorem sc_TooLong_init : FnScope n_TooLong_init p_TooLong_init (defScope s_TooLong_init) := ⟨rfl, rfl, rfl, by decide +kernel, rfl, by decide +kernel, by decide +kernel⟩
abbrev s_is_int : Stmt := topS 26
abbrev n_is_int : List Str := ["value"]
abbrev p_is_int : List Str := ["value"]
theorem sc_is_int : FnScope n_is_int p_is_int (defScope s_is_int) := ⟨rfl, rfl, rfl, by decide +kernel, rfl, by decide +kernel, by decide +kernel⟩
abbrev s_in_range : Stmt := topS 27
abbrev n_in_range : List Str := ["value", "low_end", "high_end"]
abbrev p_in_range : List Str := ["value", "low_end", "high_end"]
theorem sc_in_range : FnScope n_in_range p_in_range (defScope s_in_range) := ⟨rfl, rfl, rfl, by decide +kernel, rfl, by decide +kernel, by decide +kernel⟩
abbrev s_is_ship : Stmt := topS 28
abbrev n_is_ship : List Str := ["hours", "value"]
abbrev p_is_ship : List Str := ["hours", "value"]
theorem sc_is_ship : FnScope n_is_ship p_is_ship (defScope s_is_ship) := ⟨rfl, rfl, rfl, by decide +kernel, rfl, by decide +kernel, by decide +kernel⟩
abbrev s_day_events : Stmt := topS 29
abbrev n_day_events : List Str := ["table", "hours", "ships", "departures", "arrivals", "ship", "hour", "stay", "days_ago", "departure", "kind", "negative", "when"]
abbrev p_day_events : List Str := ["table"]
theorem sc_day_events : FnScope n_day_events p_day_events (defScope s_day_events) := ⟨rfl, rfl, rfl, by decide +kernel, rfl, by decide +kernel, by decide +kernel⟩
abbrev s_count_at_midnight : Stmt := topS 30
abbrev n_count_at_midnight : List Str := ["table", "hours", "ships", "found", "hour", "stay", "days_ago"]
abbrev p_count_at_midnight : List Str := ["table"]
theorem sc_count_at_midnight : FnScope n_count_at_midnight p_count_at_midnight (defScope s_count_at_midnight) := ⟨rfl, rfl, rfl, by decide +kernel, rfl, by decide +kernel, by decide +kernel⟩
abbrev s_counts : Stmt := topS 31
abbrev n_counts : List Str := ["table", "here", "found", "hour", "kind", "days_ago", "ship"]
abbrev p_counts : List Str := ["table"]
theorem sc_counts : FnScope n_counts p_counts (defScope s_counts) := ⟨rfl, rfl, rfl, by decide +kernel, rfl, by decide +kernel, by decide +kernel⟩
abbrev s_peak_of : Stmt := topS 32
abbrev n_peak_of : List Str := ["table"]
abbrev p_peak_of : List Str := ["table"]
theorem sc_peak_of : FnScope n_peak_of p_peak_of (defScope s_peak_of) := ⟨rfl, rfl, rfl, by decide +kernel, rfl, by decide +kernel, by decide +kernel⟩
abbrev s_is_table : Stmt := topS 33
abbrev n_is_table : List Str := ["value", "hours", "ships", "ship"]
abbrev p_is_table : List Str := ["value"]
theorem sc_is_table : FnScope n_is_table p_is_table (defScope s_is_table) := ⟨rfl, rfl, rfl, by decide +kernel, rfl, by decide +kernel, by decide +kernel⟩
abbrev s_require_table : Stmt := topS 34
abbrev n_require_table : List Str := ["value"]
abbrev p_require_table : List Str := ["value"]
theorem sc_require_table : FnScope n_require_table p_require_table (defScope s_require_table) := ⟨rfl, rfl, rfl, by decide +kernel, rfl, by decide +kernel, by decide +kernel⟩
abbrev s_parse_number : Stmt := topS 38
abbrev n_parse_number : List Str := ["word", "max_digits", "sign"]
abbrev p_parse_number : List Str := ["word", "max_digits"]
theorem sc_parse_number : FnScope n_parse_number p_parse_number (defScope s_parse_number) := ⟨rfl, rfl, rfl, by decide +kernel, rfl, by decide +kernel, by decide +kernel⟩
abbrev s_parse_line : Stmt := topS 39
abbrev n_parse_line : List Str := ["line", "keyword", "count", "first", "rest", "numbers", "word"]
abbrev p_parse_line : List Str := ["line", "keyword", "count"]
theorem sc_parse_line : FnScope n_parse_line p_parse_line (defScope s_parse_line) := ⟨rfl, rfl, rfl, by decide +kernel, rfl, by decide +kernel, by decide +kernel⟩
abbrev s_show_table : Stmt := topS 40
abbrev n_show_table : List Str := ["table", "hours", "ships", "lines", "hour", "stay", "line"]
abbrev p_show_table : List Str := ["table"]
theorem sc_show_table : FnScope n_show_table p_show_table (defScope s_show_table) := ⟨rfl, rfl, rfl, by decide +kernel, rfl, by decide +kernel, by decide +kernel⟩
abbrev s_read_table : Stmt := topS 41
abbrev n_read_table : List Str := ["text", "lines", "last", "head", "ships", "line", "table"]
abbrev p_read_table : List Str := ["text"]
theorem sc_read_table : FnScope n_read_table p_read_table (defScope s_read_table) := ⟨rfl, rfl, rfl, by decide +kernel, rfl, by decide +kernel, by decide +kernel⟩
abbrev s__law_pail : Stmt := topS 43
abbrev n__law_pail : List Str := ["_law_script", "_law_k", "_law_cell"]
abbrev p__law_pail : List Str := ["_law_script", "_law_k"]
theorem sc__law_pail : FnScope n__law_pail p__law_pail (defScope s__law_pail) := ⟨rfl, rfl, rfl, by decide +kernel, rfl, by decide +kernel, by decide +kernel⟩
abbrev s__law_dip : Stmt := topS 44
abbrev n__law_dip : List Str := ["_law_pail_here", "_law_many", "_law_found", "_law_mixed"]
abbrev p__law_dip : List Str := ["_law_pail_here", "_law_many"]
theorem sc__law_dip : FnScope n__law_dip p__law_dip (defScope s__law_dip) := ⟨rfl, rfl, rfl, by decide +kernel, rfl, by decide +kernel, by decide +kernel⟩
abbrev s__law_hours : Stmt := topS 45
abbrev n__law_hours : List Str := ["_law_pail_here"]
abbrev p__law_hours : List Str := ["_law_pail_here"]
theorem sc__law_hours : FnScope n__law_hours p__law_hours (defScope s__law_hours) := ⟨rfl, rfl, rfl, by decide +kernel, rfl, by decide +kernel, by decide +kernel⟩
abbrev s__law_table : Stmt := topS 46
abbrev n__law_table : List Str := ["_law_pail_here", "_law_day_hours", "_law_most", "_law_ships_here", "_law_k", "_law_wide"]
abbrev p__law_table : List Str := ["_law_pail_here", "_law_day_hours", "_law_most"]
theorem sc__law_table : FnScope n__law_table p__law_table (defScope s__law_table) := ⟨rfl, rfl, rfl, by decide +kernel, rfl, by decide +kernel, by decide +kernel⟩
abbrev s__law_peak : Stmt := topS 47
abbrev n__law_peak : List Str := ["_law_table_here", "_law_day_hours", "_law_ships_here", "_law_found", "_law_k", "_law_hour", "_law_stay", "_law_here", "_law_j", "_law_other", "_law_length"]
abbrev p__law_peak : List Str := ["_law_table_here"]
theorem sc__law_peak : FnScope n__law_peak p__law_peak (defScope s__law_peak) := ⟨rfl, rfl, rfl, by decide +kernel, rfl, by decide +kernel, by decide +kernel⟩
abbrev s__law_policy : Stmt := topS 48
abbrev n__law_policy : List Str := ["_law_pail_here", "_law_table_here"]
abbrev p__law_policy : List Str := ["_law_pail_here", "_law_table_here"]
theorem sc__law_policy : FnScope n__law_policy p__law_policy (defScope s__law_policy) := ⟨rfl, rfl, rfl, by decide +kernel, rfl, by decide +kernel, by decide +kernel⟩
abbrev s__law_start : Stmt := topS 49
abbrev n__law_start : List Str := ["_law_pail_here", "_law_table_here", "_law_policy_here", "_law_found", "_law_most", "_law_berth"]
abbrev p__law_start : List Str := ["_law_pail_here", "_law_table_here", "_law_policy_here"]
theorem sc__law_start : FnScope n__law_start p__law_start (defScope s__law_start) := ⟨rfl, rfl, rfl, by decide +kernel, rfl, by decide +kernel, by decide +kernel⟩
abbrev s__law_same : Stmt := topS 50
abbrev n__law_same : List Str := ["_law_found", "_law_due", "_law_k"]
abbrev p__law_same : List Str := ["_law_found", "_law_due"]
theorem sc__law_same : FnScope n__law_same p__law_same (defScope s__law_same) := ⟨rfl, rfl, rfl, by decide +kernel, rfl, by decide +kernel, by decide +kernel⟩
abbrev s__law_kind : Stmt := topS 51
abbrev n__law_kind : List Str := ["_law_caught", "_law_some", "_law_found", "_law_word", "_law_so"]
abbrev p__law_kind : List Str := ["_law_caught"]
theorem sc__law_kind : FnScope n__law_kind p__law_kind (defScope s__law_kind) := ⟨rfl, rfl, rfl, by decide +kernel, rfl, by decide +kernel, by decide +kernel⟩
abbrev s__law_text : Stmt := topS 52
abbrev n__law_text : List Str := ["_law_table_here", "_law_lines", "_law_hour", "_law_stay"]
abbrev p__law_text : List Str := ["_law_table_here"]
theorem sc__law_text : FnScope n__law_text p__law_text (defScope s__law_text) := ⟨rfl, rfl, rfl, by decide +kernel, rfl, by decide +kernel, by decide +kernel⟩
abbrev s__law_shown : Stmt := topS 53
abbrev n__law_shown : List Str := ["_law_value", "e"]
abbrev p__law_shown : List Str := ["_law_value"]
theorem sc__law_shown : FnScope n__law_shown p__law_shown (defScope s__law_shown) := ⟨rfl, rfl, rfl, by decide +kernel, rfl, by decide +kernel, by decide +kernel⟩
abbrev s_law : Stmt := topS 54
abbrev n_law : List Str := ["_law_script", "_law_k", "_law_pail_here", "_law_table_here", "_law_day_hours", "_law_ships_here", "_law_some", "_law_hour", "_law_stay", "_law_one", "_law_text_here", "_law_value"]
abbrev p_law : List Str := ["_law_script"]
theorem sc_law : FnScope n_law p_law (defScope s_law) := ⟨rfl, rfl, rfl, by decide +kernel, rfl, by decide +kernel, by decide +kernel⟩
end Ba

set_option maxHeartbeats 400000
namespace Ba
open PySem PySem.Spec PyProof.Rows L2
section
variable {P : Program} {w : World} {K : PySem.W.Frag} {mg : Str → Option Value} {base : Heap} {f : Addr} {fd : FuncData}
/-! ### is_int, in_range, is_ship -/
/-- any value whose kind is known -/
abbrev spIsInt (K : PySem.W.Frag) : Sp := Pr fun vs H Q _ => ∃ (v : V) (t : String) (b c : Bool), vs = [v] ∧ TyX K H v (.type t) ∧ kitB t "int" = some b ∧ kitB t "bool" = some c ∧ Q (.bl (b && !c)) H
theorem ok_is_int (B : Bi mg) (F : FunS K "is_int" "is_int" s_is_int [] [] f fd) (hm : mg "is_int" = some (.ref f)) :
    DefOk P w K mg base "is_int" 1 p_is_int [] (spIsInt K) := by
  have S := sc_is_int
  refine defOk F hm S (fun _ _ _ _ _ _ us hl => match us, hl with | [_], _ => rfl) (fun vs H Q E h => ?_) (fun cdv A outer s H vs Q E hr h => ?_)
  · obtain ⟨v, t, b, c, rfl, _⟩ := h
    rfl
  · obtain ⟨v, t, b, c, rfl, ty, h1, h2, q⟩ := h
    refine ⟨_, (pss_one (ps_ret (pe_and (pe_callB call_isA (by rfl) B.isinstance (by decide +kernel) (pa_cons (pv 0) (pa_cons (pe_bltn (v := .ty "int") (by rfl) B.int (by decide +kernel) rfl) pa_nil))) (pe_one (pe_not (pe_callB call_isA (by rfl) B.isinstance (by decide +kernel) (pa_cons (pv 0) (pa_cons (pe_bltn (v := .ty "bool") (by rfl) B.bool (by decide +kernel) rfl) pa_nil)))))))), ?_⟩
    refine ⟨_, rfl, v, t, "int", b, rfl, ty, h1, b, rfl, ?_⟩
    cases b with
    | false => exact q
    | true => exact ⟨_, rfl, v, t, "bool", c, rfl, ty, h2, c, rfl, q⟩
/-- a value that is no integer -/
def NotInt (K : PySem.W.Frag) (H : Hp) (v : V) : Prop := ∃ (t : String) (b c : Bool), TyX K H v (.type t) ∧ kitB t "int" = some b ∧ kitB t "bool" = some c ∧ (b && !c) = false
def inRangeD (lo hi : Int) : PyData → Bool
  | .int i => decide (lo ≤ i) && decide (i ≤ hi)
  | _ => false
theorem notInt_of {H : Hp} {v : V} {d : PyData} (h : Dp K H v d) (hd : ∀ i, d ≠ .int i) : NotInt K H v := by
  refine ⟨tyN d, ?_⟩
  cases d with
  | none => exact ⟨false, false, dp_ty h, (show kitB "NoneType" "int" = some false by decide +kernel), (show kitB "NoneType" "bool" = some false by decide +kernel), rfl⟩
  | bool b => exact ⟨true, true, dp_ty h, (show kitB "bool" "int" = some true by decide +kernel), (show kitB "bool" "bool" = some true by decide +kernel), rfl⟩
  | int i => exact absurd rfl (hd i)
  | str x => exact ⟨false, false, dp_ty h, (show kitB "str" "int" = some false by decide +kernel), (show kitB "str" "bool" = some false by decide +kernel), rfl⟩
  | list xs => exact ⟨false, false, dp_ty h, (show kitB "list" "int" = some false by decide +kernel), (show kitB "list" "bool" = some false by decide +kernel), rfl⟩
  | tuple xs => exact ⟨false, false, dp_ty h, (show kitB "tuple" "int" = some false by decide +kernel), (show kitB "tuple" "bool" = some false by decide +kernel), rfl⟩
  | dict kvs => cases h
abbrev spInRange (K : PySem.W.Frag) : Sp := Pr fun vs H Q _ => ∃ (v : V) (lo hi : Int), vs = [v, .int lo, .int hi] ∧ ((∃ i, v = .int i ∧ Q (.bl (decide (lo ≤ i) && decide (i ≤ hi))) H) ∨ (NotInt K H v ∧ Q (.bl false) H))
theorem inRange_dp {H : Hp} {v : V} {d : PyData} {lo hi : Int} {Q : VK} {E : XK} (h : Dp K H v d) (q : Q (.bl (inRangeD lo hi d)) H) : spInRange K [v, .int lo, .int hi] H Q E := by
  refine ⟨v, lo, hi, rfl, ?_⟩
  cases d with
  | int i => cases h; exact .inl ⟨i, rfl, q⟩
  | none => exact .inr ⟨notInt_of h (fun _ z => nomatch z), q⟩
  | bool b => exact .inr ⟨notInt_of h (fun _ z => nomatch z), q⟩
  | str x => exact .inr ⟨notInt_of h (fun _ z => nomatch z), q⟩
  | list xs => exact .inr ⟨notInt_of h (fun _ z => nomatch z), q⟩
  | tuple xs => exact .inr ⟨notInt_of h (fun _ z => nomatch z), q⟩
  | dict kvs => cases h
theorem ok_in_range (D_is_int : DefOk P w K mg base "is_int" 1 p_is_int [] (spIsInt K)) (F : FunS K "in_range" "in_range" s_in_range [] [] f fd) (hm : mg "in_range" = some (.ref f)) :
    DefOk P w K mg base "in_range" 2 p_in_range [] (spInRange K) := by
  have S := sc_in_range
  refine defOk F hm S (fun _ _ _ _ _ _ us hl => match us, hl with | [_, _, _], _ => rfl) (fun vs H Q E h => ?_) (fun cdv A outer s H vs Q E hr h => ?_)
  · obtain ⟨v, lo, hi, rfl, _⟩ := h
    rfl
  · obtain ⟨v, lo, hi, rfl, h⟩ := h
    refine ⟨_, (pss_one (ps_ret (pe_and (pe_fn D_is_int (hr.mono (by decide)) passLB rfl (pa_cons (pv 0) pa_nil)) (pe_one (pe_chain op_le op_le (pv 1) (pv 0) (pv 2)))))), ?_⟩
    rcases h with ⟨i, rfl, q⟩ | ⟨⟨t, b, c, ty, h1, h2, e⟩, q⟩
    · refine ⟨_, rfl, .int i, "int", true, false, rfl, .base (.int i), by decide +kernel, by decide +kernel, true, rfl, ?_⟩
      refine ⟨_, rfl, _, rfl, _, _, rfl, rfl, _, rfl, ?_⟩
      by_cases hlo : lo ≤ i
      · rw [decide_eq_true hlo] at q ⊢
        exact ⟨_, rfl, _, _, rfl, rfl, q⟩
      · rw [decide_eq_false hlo] at q ⊢
        exact q
    · refine ⟨_, rfl, v, t, b, c, rfl, ty, h1, h2, _, rfl, ?_⟩
      rw [e]
      exact q
def isShipD (h : Int) : PyData → Bool
  | .tuple [a, b] => inRangeD 0 (h - 1) a && inRangeD 1 10000 b
  | _ => false
/-- a test that is no tuple's -/
abbrev spIsShip (K : PySem.W.Frag) : Sp := Pr fun vs H Q _ => ∃ (h : Int) (v : V) (d : PyData), vs = [.int h, v] ∧ Dp K H v d ∧ Q (.bl (isShipD h d)) H
theorem dpAll_two {H : Hp} {vs : List V} {ds : List PyData} (h : DpAll K H vs ds) (hl : ds.length = 2) : ∃ d1 d2 v1 v2, ds = [d1, d2] ∧ vs = [v1, v2] ∧ Dp K H v1 d1 ∧ Dp K H v2 d2 := by
  match ds, vs, h, hl with
  | [d1, d2], [v1, v2], .cons h1 (.cons h2 .nil), _ => exact ⟨d1, d2, v1, v2, rfl, rfl, h1, h2⟩
theorem isShipD_len {h : Int} {ds : List PyData} (hl : ¬ ds.length = 2) : isShipD h (.tuple ds) = false := by
  match ds, hl with
  | [], _ => rfl
  | [_], _ => rfl
  | [_, _], h2 => exact absurd rfl h2
  | _ :: _ :: _ :: _, _ => rfl
theorem iteNN {c A B : Prop} [Decidable c] (hc : ¬ c) (h : A) : if (!decide c) = true then A else B := by rw [decide_eq_false hc]; exact h
theorem dpAll_len {H : Hp} : ∀ {vs : List V} {ds : List PyData}, DpAll K H vs ds → vs.length = ds.length
  | _, _, .nil => rfl
  | _, _, .cons _ t => by rw [List.length_cons, List.length_cons, dpAll_len t]
theorem isTup_no {d : PyData} (hd : ∀ xs, d ≠ .tuple xs) : kitB (tyN d) "tuple" = some false := by
  cases d with
  | tuple xs => exact absurd rfl (hd xs)
  | none => exact (show kitB "NoneType" "tuple" = some false by decide +kernel)
  | bool b => exact (show kitB "bool" "tuple" = some false by decide +kernel)
  | int i => exact (show kitB "int" "tuple" = some false by decide +kernel)
  | str x => exact (show kitB "str" "tuple" = some false by decide +kernel)
  | list x => exact (show kitB "list" "tuple" = some false by decide +kernel)
  | dict x => exact (show kitB "dict" "tuple" = some false by decide +kernel)
theorem isTup_yes : kitB "tuple" "tuple" = some true := by decide +kernel
theorem ok_is_ship (B : Bi mg) (T : TTab mg) (D_in_range : DefOk P w K mg base "in_range" 2 p_in_range [] (spInRange K)) (F : FunS K "is_ship" "is_ship" s_is_ship [] [] f fd) (hm : mg "is_ship" = some (.ref f)) :
    DefOk P w K mg base "is_ship" 3 p_is_ship [] (spIsShip K) := by
  have S := sc_is_ship
  refine defOk F hm S (fun _ _ _ _ _ _ us hl => match us, hl with | [_, _], _ => rfl) (fun vs H Q E h => ?_) (fun cdv A outer s H vs Q E hr h => ?_)
  · obtain ⟨h, v, d, rfl, _⟩ := h
    rfl
  · obtain ⟨h, v, d, rfl, hd, q⟩ := h
    refine ⟨_, (pss_cons (ps_if (PW.pt (pw_or (pt_not (pt_val (pe_callB call_isA (by rfl) B.isinstance (by decide +kernel) (pa_cons (pv 1) (pa_cons (pe_bltn (v := .ty "tuple") (by rfl) B.tuple (by decide +kernel) rfl) pa_nil))))) (pw_or1 (pt_cmpR op_ne (pe_callB call_len_seq (by rfl) B.len (by decide +kernel) (pa_cons (pv 1) pa_nil)) pe_int (nomark _))))) (pss_one (ps_ret pe_bl)) pss_nil)
      (pss_one (ps_ret (pe_and (pe_fn D_in_range (hr.mono (by decide)) passLB rfl (pa_cons (pe_ix ix_tup (pv 1) pe_int (fun _ _ => rfl)) (pa_cons pe_int (pa_cons (pe_op op_sub (pv 0) pe_int) pa_nil)))) (pe_one (pe_fn D_in_range (hr.mono (by decide)) passLB rfl (pa_cons (pe_ix ix_tup (pv 1) pe_int (fun _ _ => rfl)) (pa_cons pe_int (pa_cons (pe_gint (i := 10000) (by rfl) T.MOST_STAY) pa_nil))))))))), ?_⟩
    by_cases ht : ∃ xs, d = .tuple xs
    · obtain ⟨ds, rfl⟩ := ht
      obtain ⟨a, xs, rfl, hs, ha⟩ : ∃ a xs, v = .ref a ∧ SqT K H a xs ∧ DpAll K H xs ds := by
        cases hd with
        | tup h1 h2 => exact ⟨_, _, rfl, h1, h2⟩
      refine ⟨_, rfl, .ref a, "tuple", "tuple", true, rfl, sqT_ty hs, isTup_yes, true, rfl, ?_⟩
      refine iteF ?_
      refine ⟨_, rfl, a, xs, rfl, .inr hs, rfl, _, rfl, ?_⟩
      by_cases h2 : ds.length = 2
      · obtain ⟨d1, d2, v1, v2, rfl, rfl, h1, h2⟩ := dpAll_two ha h2
        · refine iteNS rfl ?_
          refine ⟨_, rfl, ?_⟩
          refine ⟨a, _, _, v1, rfl, rfl, hs, rfl, ?_⟩
          refine ⟨_, rfl, _, _, rfl, rfl, ?_⟩
          refine inRange_dp h1 ?_
          refine ⟨_, rfl, ?_⟩
          cases e : inRangeD 0 (h - 1) d1 with
          | false =>
            have : isShipD h (.tuple [d1, d2]) = false := by simp only [isShipD, e, Bool.false_and]
            rw [this] at q
            exact q
          | true =>
            have : isShipD h (.tuple [d1, d2]) = inRangeD 1 10000 d2 := by simp only [isShipD, e, Bool.true_and]
            rw [this] at q
            exact ⟨_, rfl, a, _, _, v2, rfl, rfl, hs, rfl, inRange_dp h2 q⟩
      · have hne : ¬ (V.int (xs.length : Int) = V.int 2) := fun z => by
          injection z with z
          rw [dpAll_len ha] at z
          omega
        refine iteNN hne ?_
        rw [isShipD_len h2] at q
        exact q
    · have hn : ∀ xs, d ≠ .tuple xs := fun xs e => ht ⟨xs, e⟩
      refine ⟨_, rfl, v, tyN d, "tuple", false, rfl, dp_ty hd, isTup_no hn, false, rfl, ?_⟩
      refine iteT ?_
      have : isShipD h d = false := by
        cases d with
        | tuple xs => exact absurd rfl (hn xs)
        | _ => rfl
      rw [this] at q
      exact q
end
end Ba

set_option maxHeartbeats 400000
namespace Ba
open PySem PySem.Spec PyProof.Rows L2
/-! ### timetables as data; the events of a day -/
def shD (s : Int × Int) : PyData := .tuple [.int s.1, .int s.2]
def tbD (h : Int) (ss : List (Int × Int)) : PyData := .tuple [.int h, .tuple (ss.map shD)]
abbrev Ev5 := Int × Int × Int × Int × Int
def enc5 (e : Ev5) : PyData := .tuple [.int e.1, .int e.2.1, .int e.2.2.1, .int e.2.2.2.1, .int e.2.2.2.2]
def enc4 (e : Ev5) : PyData := .tuple [.int e.1, .int e.2.1, .int (-e.2.2.1), .int e.2.2.2.2]
def depEv (h : Int) (k : Nat) (s : Int × Int) : Ev5 := ((s.1 + s.2) % h, 0, -((s.1 + s.2) / h), s.1, (k : Int))
def arrEv (k : Nat) (s : Int × Int) : Ev5 := (s.1, 1, 0, s.1, (k : Int))
def evs (h : Int) (ss : List (Int × Int)) : List Ev5 := (ss.mapIdx (depEv h) ++ ss.mapIdx arrEv).mergeSort (PySem.W.dataLe false enc5)
theorem enc5_alike (b b' : Ev5) : PySem.W.alike (enc5 b) (enc5 b') = true := by
  simp [enc5, PySem.W.alike, PySem.W.alikeAll]
theorem enc5_depth (b : Ev5) : (enc5 b).depth ≤ 60 := by
  simp [enc5, PyData.depth, PyData.depthAll]
theorem tp_pair {H : Hp} {v : V} {d1 d2 : PyData} (h : Tp H v (.tuple [d1, d2])) : ∃ a v1 v2, v = .ref a ∧ H a = some (.tup [v1, v2]) ∧ Tp H v1 d1 ∧ Tp H v2 d2 := by
  cases h with
  | tup h1 h2 =>
    cases h2 with
    | cons t1 r =>
      cases r with
      | cons t2 r2 => cases r2; exact ⟨_, _, _, rfl, h1, t1, t2⟩
theorem tp_int {H : Hp} {v : V} {i : Int} (h : Tp H v (.int i)) : v = .int i := by cases h; rfl
theorem tp_str {H : Hp} {v : V} {i : Str} (h : Tp H v (.str i)) : v = .str i := by cases h; rfl
theorem tp_bool {H : Hp} {v : V} {i : Bool} (h : Tp H v (.bool i)) : v = .bl i := by cases h; rfl
theorem tp_tup {H : Hp} {v : V} {ds : List PyData} (h : Tp H v (.tuple ds)) : ∃ a xs, v = .ref a ∧ H a = some (.tup xs) ∧ TpAll H xs ds := by
  cases h with
  | tup h1 h2 => exact ⟨_, _, rfl, h1, h2⟩
theorem tp_ship {H : Hp} {v : V} {s : Int × Int} (h : Tp H v (shD s)) : ∃ a, v = .ref a ∧ H a = some (.tup [.int s.1, .int s.2]) := by
  obtain ⟨a, v1, v2, rfl, h1, t1, t2⟩ := tp_pair h
  rw [tp_int t1, tp_int t2] at h1
  exact ⟨a, rfl, h1⟩
theorem tp_ints : ∀ {H : Hp} {xs : List V} {ns : List Int}, TpAll H xs (ns.map .int) → xs = ns.map V.int := fun h => tpAll_ints h
theorem tp_intsT {H : Hp} {v : V} (ns : List Int) (h : Tp H v (.tuple (ns.map .int))) : ∃ a, v = .ref a ∧ H a = some (.tup (ns.map V.int)) := by
  obtain ⟨a, xs, rfl, h1, h2⟩ := tp_tup h
  rw [tpAll_ints h2] at h1
  exact ⟨a, rfl, h1⟩
theorem tp_ev5 {H : Hp} {v : V} {e : Ev5} (h : Tp H v (enc5 e)) : ∃ a, v = .ref a ∧ H a = some (.tup [.int e.1, .int e.2.1, .int e.2.2.1, .int e.2.2.2.1, .int e.2.2.2.2]) :=
  tp_intsT [e.1, e.2.1, e.2.2.1, e.2.2.2.1, e.2.2.2.2] h
theorem tp_ev4 {H : Hp} {v : V} {e : Ev5} (h : Tp H v (enc4 e)) : ∃ a, v = .ref a ∧ H a = some (.tup [.int e.1, .int e.2.1, .int (-e.2.2.1), .int e.2.2.2.2]) :=
  tp_intsT [e.1, e.2.1, -e.2.2.1, e.2.2.2.2] h
theorem tp_table {H : Hp} {v : V} {h : Int} {ss : List (Int × Int)} (t : Tp H v (tbD h ss)) : ∃ a b xs, v = .ref a ∧ H a = some (.tup [.int h, .ref b]) ∧ H b = some (.tup xs) ∧ TpAll H xs (ss.map shD) := by
  obtain ⟨a, v1, v2, rfl, h1, t1, t2⟩ := tp_pair t
  obtain ⟨b, xs, rfl, h2, t3⟩ := tp_tup t2
  rw [tp_int t1] at h1
  exact ⟨a, b, xs, rfl, h1, h2, t3⟩
theorem tpAll_at {H : Hp} {xs : List V} {α : Type} {l : List α} {enc : α → PyData} (h : TpAll H xs (l.map enc)) {i : Nat} {x : V} (e : xs[i]? = some x) : ∃ s, l[i]? = some s ∧ Tp H x (enc s) := by
  obtain ⟨d, h1, h2⟩ := h.get e
  rw [List.getElem?_map] at h1
  cases e2 : l[i]? with
  | none => rw [e2] at h1; cases h1
  | some s => rw [e2] at h1; cases h1; exact ⟨s, rfl, h2⟩
theorem tpAll_mlen {H : Hp} {xs : List V} {α : Type} {l : List α} {enc : α → PyData} (h : TpAll H xs (l.map enc)) : xs.length = l.length := by rw [h.length, List.length_map]
theorem mapIdx_take {α β : Type} (f : Nat → α → β) (l : List α) {i : Nat} {x : α} (h : l[i]? = some x) : (l.take (i + 1)).mapIdx f = (l.take i).mapIdx f ++ [f i x] := by
  have hi := (List.getElem?_eq_some_iff.mp h).1
  rw [List.take_add_one, h]
  simp only [Option.toList]
  rw [List.mapIdx_append]
  simp [Nat.min_eq_left (Nat.le_of_lt hi)]
section
variable {P : Program} {w : World} {K : PySem.W.Frag} {mg : Str → Option Value} {base : Heap} {f : Addr} {fd : FuncData}
/-- a table: at most 24 ships (or some more), hours as they should be -/
structure TabOk (h : Int) (ss : List (Int × Int)) : Prop where
  h1 : 1 ≤ h
  h2 : h ≤ 1000
  n : ss.length ≤ 24
abbrev spDayEvents : Sp := Pr fun vs H Q _ => ∃ (v : V) (h : Int) (ss : List (Int × Int)), vs = [v] ∧ Tp H v (tbD h ss) ∧ TabOk h ss ∧
  ∀ (p : Addr) (xs : List V) (H' : Hp), H p = none → Kp [] H H' → H' p = some (.lst xs) → TpAll H' xs ((evs h ss).map enc4) → Q (.ref p) H'
theorem ok_day_events (B : Bi mg) (T : TTab mg) (F : FunS K "day_events" "day_events" s_day_events [] [] f fd) (hm : mg "day_events" = some (.ref f)) :
    DefOk P w K mg base "day_events" 1 p_day_events [] spDayEvents := by
  have S := sc_day_events
  refine defOk F hm S (fun _ _ _ _ _ _ us hl => match us, hl with | [_], _ => rfl) (fun vs H Q E h => ?_) (fun cdv A outer s H vs Q E hr h => ?_)
  · obtain ⟨v, h, ss, rfl, _⟩ := h
    rfl
  · obtain ⟨v, h, ss, rfl, ht, ok, k⟩ := h
    refine ⟨_, (pss_cons (ps_asg (pv 0) (pg_tup rfl (pgs_cons (pg_name (i := 1) S.nd rfl (Or.inl rfl)) (pgs_cons (pg_name (i := 2) S.nd rfl (Or.inl rfl)) pgs_nil))))
      (pss_cons (ps_par (i := 3) (j := 4) (by rfl) S.nd rfl rfl (by decide) rfl rfl (pa_cons (pe_lst pa_nil) (pa_cons (pe_lst pa_nil) pa_nil)) (by rfl))
      (pss_cons (ps_for (passes_of rfl) rfl (pi_enumT (by rfl) B.enumerate (pa_cons (pv 2) pa_nil)) (pg_tup rfl (pgs_cons (pg_name (i := 5) S.nd rfl (Or.inl rfl)) (pgs_cons (pg_tup rfl (pgs_cons (pg_name (i := 6) S.nd rfl (Or.inl rfl)) (pgs_cons (pg_name (i := 7) S.nd rfl (Or.inl rfl)) pgs_nil))) pgs_nil)))
      (pss_cons (ps_asg (pe_callB call_divmod (by rfl) B.divmod (by decide +kernel) (pa_cons (pe_op op_add (pv 6) (pv 7)) (pa_cons (pv 1) pa_nil))) (pg_tup rfl (pgs_cons (pg_name (i := 8) S.nd rfl (Or.inl rfl)) (pgs_cons (pg_name (i := 9) S.nd rfl (Or.inl rfl)) pgs_nil))))
      (pss_cons (ps_expr (pe_bm PySem.F.plainAttrs_list PySem.F.slot_list_append PySem.F.type_list_append mt_append (pv 3) (pa_cons (pe_tup (pa_cons (pv 9) (pa_cons (pe_gint (i := 0) (by rfl) T.DEPARTURE) (pa_cons (pe_un un_neg (pv 8)) (pa_cons (pv 6) (pa_cons (pv 5) pa_nil)))))) pa_nil)))
      (pss_one (ps_expr (pe_bm PySem.F.plainAttrs_list PySem.F.slot_list_append PySem.F.type_list_append mt_append (pv 4) (pa_cons (pe_tup (pa_cons (pv 6) (pa_cons (pe_gint (i := 1) (by rfl) T.ARRIVAL) (pa_cons pe_int (pa_cons (pv 6) (pa_cons (pv 5) pa_nil)))))) pa_nil)))))))
      (pss_one (ps_ret (pe_lc (own := [("hour", 6), ("kind", 10), ("negative", 11), ("when", 12), ("ship", 5)]) (g := (gTup K 5 (gCons (gName 6) (gCons (gName 10) (gCons (gName 11) (gCons (gName 12) (gCons (gName 5) gNil))))))) (tt := tYes) (by rfl) S.nd (pi_list (pe_callB (cr_sortD hr.units enc5) (by rfl) B.sorted (by decide +kernel) (pa_cons (pe_op op_cat (pv 3) (pv 4)) pa_nil))) (blkOk_by (own := [("hour", 6), ("kind", 10), ("negative", 11), ("when", 12), ("ship", 5)]) (N := n_day_events) (sc := defScope s_day_events) (by decide +kernel)) (fun _ _ _ _ _ => (pg_tup rfl (pgs_cons (pg_name (i := 6) S.nd rfl (Or.inl rfl)) (pgs_cons (pg_name (i := 10) S.nd rfl (Or.inl rfl)) (pgs_cons (pg_name (i := 11) S.nd rfl (Or.inl rfl)) (pgs_cons (pg_name (i := 12) S.nd rfl (Or.inl rfl)) (pgs_cons (pg_name (i := 5) S.nd rfl (Or.inl rfl)) pgs_nil))))))) (fun _ _ _ _ _ => pts_nil) (fun _ _ _ _ _ => (pe_tup (pa_cons (pv 6) (pa_cons (pv 10) (pa_cons (pe_un un_neg (pv 11)) (pa_cons (pv 5) pa_nil)))))))))))), ?_⟩
    obtain ⟨a, b, xs, rfl, ha, hb, hx⟩ := tp_table ht
    have hl := tpAll_mlen hx
    -- hours, ships = table
    refine ⟨_, rfl, _, _, rfl, SqT.of ha, rfl, _, _, rfl, _, _, rfl, rfl, ?_⟩
    -- departures, arrivals = [], []
    refine ⟨by decide, fun p hp => ⟨by decide, fun q hq => ⟨_, _, rfl, ?_⟩⟩⟩
    have npq : q ≠ p := fun z => by rw [z, upd_same] at hq; cases hq
    have kpq : Kp [] H (upd (upd H p (.lst [])) q (.lst [])) := (Kp.new hp).trans (Kp.new hq)
    -- for ship, (hour, stay) in enumerate(ships)
    refine ⟨_, rfl, b, xs, rfl, sqT_tk kpq.tup hb, for_it (walk_enumT (K := K) (a := b) (xs := xs)) (fun i σ H2 => ∃ (ds as : List V) (o1 o2 o3 o4 o5 : Option V), σ = [some (.ref a), some (.int h), some (.ref b), some (.ref p), some (.ref q), o1, o2, o3, o4, o5, none, none, none] ∧
        H2 p = some (.lst ds) ∧ H2 q = some (.lst as) ∧ Kp [] H H2 ∧ i ≤ ss.length ∧ TpAll H2 ds (((ss.take i).mapIdx (depEv h)).map enc5) ∧ TpAll H2 as (((ss.take i).mapIdx arrEv).map enc5))
      ⟨[], [], none, none, none, none, none, rfl, by rw [upd_ne npq.symm, upd_same], upd_same, kpq, Nat.zero_le _, .nil, .nil⟩ ?_ ?_ ?_⟩
    · rintro i σ H2 _ ⟨ds, as, o1, o2, o3, o4, o5, rfl, h1, h2, kp, _⟩
      exact sqT_tk kp.tup hb
    · rintro i x σ H2 H3 hi ⟨ds, as, o1, o2, o3, o4, o5, rfl, h1, h2, kp, hin, td, ta⟩ ⟨T1, x1, y1, rfl, hT1, rfl, e1, e2⟩
      cases e1
      obtain ⟨s, es, ty⟩ := tpAll_at hx e2
      obtain ⟨c, rfl, hc⟩ := tp_ship ty
      have hc2 : (upd H2 T1 (.tup [.int (i : Nat), .ref c])) c = some (.tup [.int s.1, .int s.2]) := (kp.trans (Kp.new hT1)).tup _ _ hc
      -- the targets
      refine ⟨T1, _, rfl, SqT.of upd_same, rfl, _, _, rfl, _, _, rfl, ⟨c, _, rfl, SqT.of hc2, rfl, _, _, rfl, _, _, rfl, rfl, ?_⟩⟩
      refine ⟨rfl, ?_⟩
      have d1 : ds.length ≤ 24 := by have := tpAll_mlen td; simp at this; have := ok.n; omega
      have d2 : as.length ≤ 24 := by have := tpAll_mlen ta; simp at this; have := ok.n; omega
      -- days_ago, departure = divmod(hour + stay, hours)
      refine ⟨_, rfl, _, rfl, _, _, rfl, rfl, _, rfl, _, _, rfl, ⟨by have := ok.h1; omega, by have := ok.h2; omega⟩, fun e he => ?_⟩
      refine ⟨e, _, rfl, SqT.of upd_same, rfl, _, _, rfl, _, _, rfl, rfl, ?_⟩
      have k3 : Kp [] H2 (upd (upd H2 T1 (.tup [.int (i : Nat), .ref c])) e (.tup [.int ((s.1 + s.2) / h), .int ((s.1 + s.2) % h)])) := (Kp.new hT1).trans (Kp.new he)
      generalize hH3 : (upd (upd H2 T1 (.tup [.int (i : Nat), .ref c])) e (.tup [.int ((s.1 + s.2) / h), .int ((s.1 + s.2) % h)])) = H3 at k3
      have hp3 : H3 p = some (.lst ds) := k3.keep _ _ h1 (by simp)
      have hq3 : H3 q = some (.lst as) := k3.keep _ _ h2 (by simp)
      -- departures.append(..)
      refine ⟨_, rfl, .inl ⟨rfl, _, SqL.of hp3⟩, _, rfl, _, rfl, _, rfl, _, rfl, _, rfl, (show (5:Nat) ≤ sizeLine from by decide), fun t1 ht1 => ?_⟩
      have k4 : Kp [] H3 (upd H3 t1 (.tup [.int ((s.1 + s.2) % h), .int 0, .int (-((s.1 + s.2) / h)), .int s.1, .int (i : Nat)])) := Kp.new ht1
      refine ⟨p, ds, _, rfl, rfl, k4.keep _ _ hp3 (by simp), Nat.lt_of_le_of_lt d1 (by decide), ?_⟩
      have hw : Kp [p] (upd H3 t1 (.tup [.int ((s.1 + s.2) % h), .int 0, .int (-((s.1 + s.2) / h)), .int s.1, .int (i : Nat)])) _ := Kp.wr (o := .lst (ds ++ [.ref t1])) (by simp) (k4.keep _ _ hp3 (by simp)) ⟨fun _ z => (nomatch z), fun _ _ z => (nomatch z)⟩
      generalize hH4 : upd (upd H3 t1 (.tup [.int ((s.1 + s.2) % h), .int 0, .int (-((s.1 + s.2) / h)), .int s.1, .int (i : Nat)])) p (.lst (ds ++ [.ref t1])) = H4 at hw
      have hq4 : H4 q = some (.lst as) := hw.keep _ _ (k4.keep _ _ hq3 (by simp)) (by simp [npq])
      have hp4 : H4 p = some (.lst (ds ++ [.ref t1])) := by rw [← hH4, upd_same]
      have ht4 : H4 t1 = some (.tup [.int ((s.1 + s.2) % h), .int 0, .int (-((s.1 + s.2) / h)), .int s.1, .int (i : Nat)]) := hw.tup _ _ upd_same
      -- arrivals.append(..)
      refine ⟨_, rfl, .inl ⟨rfl, _, SqL.of hq4⟩, _, rfl, _, rfl, _, rfl, (show (5:Nat) ≤ sizeLine from by decide), fun t2 ht2 => ?_⟩
      have k5 : Kp [] H4 (upd H4 t2 (.tup [.int s.1, .int 1, .int 0, .int s.1, .int (i : Nat)])) := Kp.new ht2
      refine ⟨q, as, _, rfl, rfl, k5.keep _ _ hq4 (by simp), Nat.lt_of_le_of_lt d2 (by decide), ?_⟩
      have hw2 : Kp [q] (upd H4 t2 (.tup [.int s.1, .int 1, .int 0, .int s.1, .int (i : Nat)])) _ := Kp.wr (o := .lst (as ++ [.ref t2])) (by simp) (k5.keep _ _ hq4 (by simp)) ⟨fun _ z => (nomatch z), fun _ _ z => (nomatch z)⟩
      have kall : Kp [p, q] H2 (upd (upd H4 t2 (.tup [.int s.1, .int 1, .int 0, .int s.1, .int (i : Nat)])) q (.lst (as ++ [.ref t2]))) :=
        (((((k3.mono (by simp)).trans (k4.mono (by simp))).trans (hw.mono (by simp))).trans (k5.mono (by simp))).trans (hw2.mono (by simp)))
      refine ⟨ds ++ [.ref t1], as ++ [.ref t2], _, _, _, _, _, rfl, hw2.keep _ _ (k5.keep _ _ hp4 (by simp)) (by simp [npq.symm]), upd_same, ?_, ?_, ?_, ?_⟩
      · refine Kp.less ((kp.mono (S' := [p, q]) (by simp)).trans kall) (fun b hb => ?_)
        have hb' : b = p ∨ b = q := by simpa using hb
        rcases hb' with z | z
        · rw [z]; exact .inr hp
        · rw [z]; exact .inr (by rw [upd_ne npq] at hq; exact hq)
      · have := (List.getElem?_eq_some_iff.mp es).1; omega
      · rw [mapIdx_take _ _ es, List.map_append]
        refine TpAll.append (td.kp kall) (.cons (.tup (hw2.tup _ _ (k5.tup _ _ ht4)) ?_) .nil)
        exact .cons (.int _) (.cons (.int _) (.cons (.int _) (.cons (.int _) (.cons (.int _) .nil))))
      · rw [mapIdx_take _ _ es, List.map_append]
        refine TpAll.append (ta.kp kall) (.cons (.tup (hw2.tup _ _ upd_same) ?_) .nil)
        exact .cons (.int _) (.cons (.int _) (.cons (.int _) (.cons (.int _) (.cons (.int _) .nil))))
    · -- return [.. for .. in sorted(departures + arrivals)]
      rintro σ H2 ⟨ds, as, o1, o2, o3, o4, o5, rfl, h1, h2, kp, hin, td, ta⟩
      rw [hl, List.take_length] at td ta
      have d1 : ds.length ≤ 24 := by have := tpAll_mlen td; simp at this; have := ok.n; omega
      have d2 : as.length ≤ 24 := by have := tpAll_mlen ta; simp at this; have := ok.n; omega
      refine ⟨_, rfl, _, rfl, p, q, ds, as, rfl, rfl, h1, h2, Nat.le_trans (Nat.add_le_add d1 d2) (by decide), fun c hc => ?_⟩
      refine ⟨c, ds ++ as, ss.mapIdx (depEv h) ++ ss.mapIdx arrEv, rfl, SqL.of upd_same, ?_, enc5_alike, fun b => ⟨_, _, rfl⟩, enc5_depth, fun ys d hys hyl hd => ?_⟩
      · rw [List.map_append]
        exact (td.append ta).new hc
      · have k3 : Kp [] H2 (upd (upd H2 c (.lst (ds ++ as))) d (.lst ys)) := (Kp.new hc).trans (Kp.new hd)
        have hys3 := hys.new (o := .lst ys) hd
        have hd3 : (upd (upd H2 c (.lst (ds ++ as))) d (.lst ys)) d = some (.lst ys) := upd_same
        generalize (upd (upd H2 c (.lst (ds ++ as))) d (.lst ys)) = H3 at k3 hys3 hd3
        have hyn : ys.length ≤ 48 := by
          rw [hyl, List.length_append, List.length_mapIdx, List.length_mapIdx]
          have := ok.n; omega
        refine ⟨d, rfl, ⟨_, SqL.of hd3⟩, fun L hL => lc_data (walk_list (K := K) (a := d) (xs := ys)) (fun i => match (evs h ss)[i]? with | some e => [enc4 e] | none => []) hL (fun H4 k4 => sqL_kp k4 (by simp) (SqL.of hd3)) ?_ ?_⟩
        · rintro i x H4 H5 hi L1 ⟨rfl, hx4⟩
          obtain ⟨e, he, te⟩ := tpAll_at (l := evs h ss) hys3 hx4
          obtain ⟨a5, rfl, h5⟩ := tp_ev5 (te.kp L1.kp)
          refine ⟨a5, _, rfl, SqT.of h5, rfl, _, _, rfl, _, _, rfl, _, _, rfl, _, _, rfl, _, _, rfl, rfl, ?_⟩
          refine ⟨wipe5 (by decide), ?_⟩
          refine ⟨_, rfl, _, rfl, _, rfl, _, rfl, _, rfl, (show (4:Nat) ≤ sizeLine from by decide), fun u hu => ?_⟩
          refine L1.fin (d := enc4 e) (by omega) hL hi (Kp.new hu) (by rw [he]) (.tup upd_same ?_)
          exact .cons (.int _) (.cons (.int _) (.cons (.int _) (.cons (.int _) .nil)))
        · intro H4 acc k4 hacc _ hT
          refine k L acc H4 (kp.free (k3.free hL)) ((kp.trans k3).trans k4) hacc ?_
          rw [show ys.length = (evs h ss).length from tpAll_mlen hys3, flatMap_one (evs h ss) _ enc4 (fun i x e => by rw [e])] at hT
          exact hT
end
end Ba

set_option maxHeartbeats 400000
namespace Ba
open PySem PySem.Spec PyProof.Rows L2
/-! ### counts and the peak -/
def midM (h : Int) (ss : List (Int × Int)) : Int := (ss.map fun s => (s.1 + s.2) / h).sum
def stepC (here : Int) (e : Ev5) : Int := here + (if e.2.1 = 1 then 1 else -1)
def runC : Int → List Ev5 → List Int
  | _, [] => []
  | here, e :: r => stepC here e :: runC (stepC here e) r
theorem runC_snoc (here : Int) (l : List Ev5) (e : Ev5) : runC here (l ++ [e]) = runC here l ++ [stepC (l.foldl stepC here) e] := by
  induction l generalizing here with
  | nil => rfl
  | cons a l ih => simp only [List.cons_append, runC, List.foldl_cons, ih]
theorem runC_length (here : Int) (l : List Ev5) : (runC here l).length = l.length := by
  induction l generalizing here with
  | nil => rfl
  | cons a l ih => simp only [runC, List.length_cons, ih]
def countsM (h : Int) (ss : List (Int × Int)) : List Int := runC (midM h ss) (evs h ss)
def peakM (h : Int) (ss : List (Int × Int)) : Int := maxI (countsM h ss) 0
theorem evs_length (h : Int) (ss : List (Int × Int)) : (evs h ss).length = 2 * ss.length := by
  unfold evs
  rw [List.length_mergeSort, List.length_append, List.length_mapIdx, List.length_mapIdx]
  omega
theorem sum_snoc {l : List Int} {x : Int} : (l ++ [x]).sum = l.sum + x := by
  rw [List.sum_append]; simp
section
variable {P : Program} {w : World} {K : PySem.W.Frag} {mg : Str → Option Value} {base : Heap} {f : Addr} {fd : FuncData}
abbrev spMid : Sp := Pr fun vs H Q _ => ∃ (v : V) (h : Int) (ss : List (Int × Int)), vs = [v] ∧ Tp H v (tbD h ss) ∧ TabOk h ss ∧ Q (.int (midM h ss)) H
theorem ok_count_at_midnight (F : FunS K "count_at_midnight" "count_at_midnight" s_count_at_midnight [] [] f fd) (hm : mg "count_at_midnight" = some (.ref f)) :
    DefOk P w K mg base "count_at_midnight" 1 p_count_at_midnight [] spMid := by
  have S := sc_count_at_midnight
  refine defOk F hm S (fun _ _ _ _ _ _ us hl => match us, hl with | [_], _ => rfl) (fun vs H Q E h => ?_) (fun cdv A outer s H vs Q E hr h => ?_)
  · obtain ⟨v, h, ss, rfl, _⟩ := h
    rfl
  · obtain ⟨v, h, ss, rfl, ht, ok, k⟩ := h
    refine ⟨_, (pss_cons (ps_asg (pv 0) (pg_tup rfl (pgs_cons (pg_name (i := 1) S.nd rfl (Or.inl rfl)) (pgs_cons (pg_name (i := 2) S.nd rfl (Or.inl rfl)) pgs_nil))))
      (pss_cons (ps_set (i := 3) S.nd rfl (Or.inl rfl) pe_int)
      (pss_cons (ps_for (passes_of rfl) rfl (pi_tup (pv 2)) (pg_tup rfl (pgs_cons (pg_name (i := 4) S.nd rfl (Or.inl rfl)) (pgs_cons (pg_name (i := 5) S.nd rfl (Or.inl rfl)) pgs_nil)))
      (pss_cons (ps_set (i := 6) S.nd rfl (Or.inl rfl) (pe_op op_fdiv (pe_op op_add (pv 4) (pv 5)) (pv 1)))
      (pss_one (ps_aug (i := 3) S.nd rfl (Or.inl rfl) (pv 6) ip_add))))
      (pss_one (ps_ret (pv 3)))))), ?_⟩
    obtain ⟨a, b, xs, rfl, ha, hb, hx⟩ := tp_table ht
    have hl := tpAll_mlen hx
    refine ⟨_, rfl, _, _, rfl, SqT.of ha, rfl, _, _, rfl, _, _, rfl, rfl, ?_⟩
    refine ⟨_, rfl, b, rfl, ⟨xs, SqT.of hb⟩, for_it (walk_tup (K := K) (a := b) (xs := xs)) (fun i σ H2 => ∃ (o1 o2 o3 : Option V), σ = [some (.ref a), some (.int h), some (.ref b), some (.int ((ss.take i).map fun s => (s.1 + s.2) / h).sum), o1, o2, o3] ∧ H2 = H ∧ i ≤ ss.length)
      ⟨none, none, none, rfl, rfl, Nat.zero_le _⟩ (fun i σ H2 _ p => by obtain ⟨_, _, _, _, rfl, _⟩ := p; exact SqT.of hb) ?_ ?_⟩
    · rintro i x σ H2 H3 hi ⟨o1, o2, o3, rfl, rfl, hin⟩ ⟨rfl, hx2⟩
      obtain ⟨s, es, ty⟩ := tpAll_at hx hx2
      obtain ⟨c, rfl, hc⟩ := tp_ship ty
      refine ⟨c, _, rfl, SqT.of hc, rfl, _, _, rfl, _, _, rfl, rfl, ?_⟩
      refine ⟨_, rfl, _, rfl, _, _, rfl, rfl, _, rfl, _, _, rfl, rfl, ⟨by have := ok.h1; omega, by have := ok.h2; omega⟩, ?_⟩
      refine ⟨_, rfl, _, rfl, _, _, rfl, rfl, ?_⟩
      have e : ((ss.take (i + 1)).map fun s => (s.1 + s.2) / h).sum = ((ss.take i).map fun s => (s.1 + s.2) / h).sum + (s.1 + s.2) / h := by
        rw [List.take_add_one, es]
        simp only [Option.toList, List.map_append, List.map_cons, List.map_nil, sum_snoc]
      rw [e]
      exact ⟨_, _, _, rfl, rfl, by omega⟩
    · rintro σ H2 ⟨o1, o2, o3, rfl, rfl, _⟩
      refine ⟨_, rfl, ?_⟩
      rw [hl, List.take_length]
      exact k
abbrev spCounts : Sp := Pr fun vs H Q _ => ∃ (v : V) (h : Int) (ss : List (Int × Int)), vs = [v] ∧ Tp H v (tbD h ss) ∧ TabOk h ss ∧
  ∀ (p : Addr) (H' : Hp), H p = none → Kp [] H H' → H' p = some (.lst ((countsM h ss).map V.int)) → Q (.ref p) H'
theorem ok_counts (T : TTab mg) (D_count_at_midnight : DefOk P w K mg base "count_at_midnight" 1 p_count_at_midnight [] spMid) (D_day_events : DefOk P w K mg base "day_events" 1 p_day_events [] spDayEvents)
    (F : FunS K "counts" "counts" s_counts [] [] f fd) (hm : mg "counts" = some (.ref f)) : DefOk P w K mg base "counts" 2 p_counts [] spCounts := by
  have S := sc_counts
  refine defOk F hm S (fun _ _ _ _ _ _ us hl => match us, hl with | [_], _ => rfl) (fun vs H Q E h => ?_) (fun cdv A outer s H vs Q E hr h => ?_)
  · obtain ⟨v, h, ss, rfl, _⟩ := h
    rfl
  · obtain ⟨v, h, ss, rfl, ht, ok, k⟩ := h
    refine ⟨_, (pss_cons (ps_set (i := 1) S.nd rfl (Or.inl rfl) (pe_fn D_count_at_midnight (hr.mono (by decide)) passLB rfl (pa_cons (pv 0) pa_nil)))
      (pss_cons (ps_set (i := 2) S.nd rfl (Or.inl rfl) (pe_lst pa_nil))
      (pss_cons (ps_for (passes_of rfl) rfl (pi_list (pe_fn D_day_events (hr.mono (by decide)) passLB rfl (pa_cons (pv 0) pa_nil))) (pg_tup rfl (pgs_cons (pg_name (i := 3) S.nd rfl (Or.inl rfl)) (pgs_cons (pg_name (i := 4) S.nd rfl (Or.inl rfl)) (pgs_cons (pg_name (i := 5) S.nd rfl (Or.inl rfl)) (pgs_cons (pg_name (i := 6) S.nd rfl (Or.inl rfl)) pgs_nil)))))
      (pss_cons (ps_aug (i := 1) S.nd rfl (Or.inl rfl) (pe_ifExp (pt_cmpR op_eq (pv 4) (pe_gint (i := 1) (by rfl) T.ARRIVAL) (nomark _)) pe_int (pe_un un_neg pe_int)) ip_add)
      (pss_one (ps_expr (pe_bm PySem.F.plainAttrs_list PySem.F.slot_list_append PySem.F.type_list_append mt_append (pv 2) (pa_cons (pv 1) pa_nil))))))
      (pss_one (ps_ret (pv 2)))))), ?_⟩
    -- here = count_at_midnight(table); found = []
    refine ⟨_, rfl, v, h, ss, rfl, ht, ok, ?_⟩
    refine ⟨(show (0:Nat) ≤ sizeLine from by decide), fun q hq => ?_⟩
    have kq : Kp [] H (upd H q (.lst [])) := Kp.new hq
    have hq1 : (upd H q (.lst [])) q = some (.lst []) := upd_same
    generalize (upd H q (.lst [])) = H1 at kq hq1
    -- for .. in day_events(table)
    refine ⟨_, rfl, v, h, ss, rfl, ht.kp kq, ok, fun p xs H2 np k2 hp hx => ?_⟩
    have hxl := tpAll_mlen hx
    have hq2 : H2 q = some (.lst []) := k2.keep _ _ hq1 (by simp)
    have npq : p ≠ q := fun z => by rw [z, hq1] at np; cases np
    refine ⟨p, rfl, ⟨xs, SqL.of hp⟩, for_it (walk_list (K := K) (a := p) (xs := xs)) (fun i σ H3 => ∃ (o1 o2 o3 o4 : Option V), σ = [some v, some (.int (((evs h ss).take i).foldl stepC (midM h ss))), some (.ref q), o1, o2, o3, o4] ∧ Kp [q] H2 H3 ∧ i ≤ (evs h ss).length ∧
        H3 q = some (.lst ((runC (midM h ss) ((evs h ss).take i)).map V.int)))
      ⟨none, none, none, none, rfl, Kp.refl _, Nat.zero_le _, hq2⟩ (fun i σ H3 _ p => by obtain ⟨_, _, _, _, _, k3, _⟩ := p; exact SqL.of (k3.keep _ _ hp (by simp [npq]))) ?_ ?_⟩
    · rintro i x σ H3 H4 hi ⟨o1, o2, o3, o4, rfl, k3, hin, hq3⟩ ⟨rfl, hx2⟩
      obtain ⟨e, es, ty⟩ := tpAll_at (l := evs h ss) hx hx2
      obtain ⟨c, rfl, hc⟩ := tp_ev4 (ty.kp k3)
      refine ⟨c, _, rfl, SqT.of hc, rfl, _, _, rfl, _, _, rfl, _, _, rfl, _, _, rfl, rfl, ?_⟩
      have hlen : (runC (midM h ss) ((evs h ss).take i)).length ≤ 48 := by
        rw [runC_length, List.length_take]
        have := evs_length h ss
        have := ok.n
        omega
      -- here += 1 if kind == ARRIVAL else -1; found.append(here)
      have fin : ∀ (d : Int), stepC (((evs h ss).take i).foldl stepC (midM h ss)) e = (((evs h ss).take i).foldl stepC (midM h ss)) + d →
          ∃ (o1 o2 o3 o4 : Option V), [some v, some (.int ((((evs h ss).take i).foldl stepC (midM h ss)) + d)), some (.ref q), some (.int e.1), some (.int e.2.1), some (.int (-e.2.2.1)), some (.int e.2.2.2.2)] = [some v, some (.int (((evs h ss).take (i + 1)).foldl stepC (midM h ss))), some (.ref q), o1, o2, o3, o4] ∧
            Kp [q] H2 (upd H4 q (.lst ((runC (midM h ss) ((evs h ss).take i)).map V.int ++ [.int ((((evs h ss).take i).foldl stepC (midM h ss)) + d)]))) ∧ i + 1 ≤ (evs h ss).length ∧
            (upd H4 q (.lst ((runC (midM h ss) ((evs h ss).take i)).map V.int ++ [.int ((((evs h ss).take i).foldl stepC (midM h ss)) + d)]))) q = some (.lst ((runC (midM h ss) ((evs h ss).take (i + 1))).map V.int)) := by
        intro d hd
        have et : (evs h ss).take (i + 1) = (evs h ss).take i ++ [e] := by
          rw [List.take_add_one, es]; rfl
        refine ⟨_, _, _, _, by rw [et, List.foldl_append, List.foldl_cons, List.foldl_nil, hd], k3.trans (Kp.wr (by simp) hq3 ⟨fun _ z => (nomatch z), fun _ _ z => (nomatch z)⟩), (List.getElem?_eq_some_iff.mp es).1, ?_⟩
        rw [upd_same, et, runC_snoc, hd, List.map_append]
        rfl
      refine ⟨_, rfl, _, rfl, rfl, _, rfl, ?_⟩
      by_cases ek : e.2.1 = 1
      · refine iteT' (decide_eq_true (congrArg V.int ek)) ?_
        refine ⟨_, _, rfl, rfl, ?_⟩
        refine ⟨_, rfl, .inl ⟨rfl, _, SqL.of hq3⟩, _, rfl, q, _, _, rfl, rfl, hq3, by rw [List.length_map]; exact Nat.lt_of_le_of_lt hlen (by decide), ?_⟩
        exact fin 1 (by unfold stepC; rw [if_pos ek])
      · refine iteF' (decide_eq_false (fun z => ek (V.int.inj z))) ?_
        refine ⟨_, rfl, _, _, rfl, rfl, ?_⟩
        refine ⟨_, rfl, .inl ⟨rfl, _, SqL.of hq3⟩, _, rfl, q, _, _, rfl, rfl, hq3, by rw [List.length_map]; exact Nat.lt_of_le_of_lt hlen (by decide), ?_⟩
        exact fin (-1) (by unfold stepC; rw [if_neg ek])
    · rintro σ H3 ⟨o1, o2, o3, o4, rfl, k3, _, hq3⟩
      refine ⟨_, rfl, ?_⟩
      rw [hxl, List.take_length] at hq3
      exact k q H3 hq ((((kq.trans k2).mono (S' := [q]) (by simp)).trans k3).less fun b hb => .inr (by rw [show b = q by simpa using hb]; exact hq)) hq3
abbrev spPeakOf : Sp := Pr fun vs H Q _ => ∃ (v : V) (h : Int) (ss : List (Int × Int)), vs = [v] ∧ Tp H v (tbD h ss) ∧ TabOk h ss ∧ ∀ (H' : Hp), Kp [] H H' → Q (.int (peakM h ss)) H'
theorem ok_peak_of (B : Bi mg) (D_counts : DefOk P w K mg base "counts" 2 p_counts [] spCounts) (F : FunS K "peak_of" "peak_of" s_peak_of [] [] f fd) (hm : mg "peak_of" = some (.ref f)) : DefOk P w K mg base "peak_of" 3 p_peak_of [] spPeakOf := by
  have S := sc_peak_of
  refine defOk F hm S (fun _ _ _ _ _ _ us hl => match us, hl with | [_], _ => rfl) (fun vs H Q E h => ?_) (fun cdv A outer s H vs Q E hr h => ?_)
  · obtain ⟨v, h, ss, rfl, _⟩ := h
    rfl
  · obtain ⟨v, h, ss, rfl, ht, ok, k⟩ := h
    refine ⟨_, (pss_one (ps_ret (pe_callBK (cr_maxDef rfl hr.units) (by rfl) B.max (by decide +kernel) (pa_cons (pe_fn D_counts (hr.mono (by decide)) passLB rfl (pa_cons (pv 0) pa_nil)) pa_nil) (pk_cons pe_int pk_nil)))), ?_⟩
    refine ⟨_, rfl, v, h, ss, rfl, ht, ok, fun p H' np kp hp => ?_⟩
    exact ⟨p, countsM h ss, 0, rfl, rfl, SqL.of hp, k H' kp⟩
/-! ### is_table -/
def isShapeD : PyData → Bool
  | .tuple [.int h, .tuple ss] => decide (1 ≤ h) && decide (h ≤ 1000) && decide (ss.length ≤ 24) && ss.all (isShipD h)
  | _ => false
def shOf : PyData → Int × Int
  | .tuple [.int a, .int b] => (a, b)
  | _ => (0, 0)
def tabOf : PyData → Int × List (Int × Int)
  | .tuple [.int h, .tuple ss] => (h, ss.map shOf)
  | _ => (1, [])
def isTableD (d : PyData) : Bool := isShapeD d && decide (peakM (tabOf d).1 (tabOf d).2 ≤ 60)
theorem isShipD_eq {h : Int} {d : PyData} (e : isShipD h d = true) : d = shD (shOf d) ∧ 0 ≤ (shOf d).1 ∧ (shOf d).1 < h ∧ 1 ≤ (shOf d).2 ∧ (shOf d).2 ≤ 10000 := by
  unfold isShipD at e
  split at e
  · rename_i a b
    rw [Bool.and_eq_true] at e
    obtain ⟨e1, e2⟩ := e
    cases a with
    | int i =>
      cases b with
      | int j =>
        simp only [inRangeD, Bool.and_eq_true, decide_eq_true_eq] at e1 e2
        refine ⟨rfl, ?_⟩
        simp only [shOf]
        omega
      | _ => simp [inRangeD] at e2
    | _ => simp [inRangeD] at e1
  · cases e
/-- what a valid shape is -/
structure TabV (h : Int) (ss : List (Int × Int)) : Prop where
  h1 : 1 ≤ h
  h2 : h ≤ 1000
  n : ss.length ≤ 24
  sh : ∀ s ∈ ss, 0 ≤ s.1 ∧ s.1 < h ∧ 1 ≤ s.2 ∧ s.2 ≤ 10000
theorem TabV.ok {h : Int} {ss : List (Int × Int)} (t : TabV h ss) : TabOk h ss := ⟨t.h1, t.h2, t.n⟩
theorem ships_eq {h : Int} : ∀ {ds : List PyData}, ds.all (isShipD h) = true → ds = (ds.map shOf).map shD
  | [], _ => rfl
  | d :: ds, e => by
    rw [List.all_cons, Bool.and_eq_true] at e
    rw [List.map_cons, List.map_cons, ← (isShipD_eq e.1).1, ← ships_eq e.2]
theorem isShapeD_eq {d : PyData} (e : isShapeD d = true) : d = tbD (tabOf d).1 (tabOf d).2 ∧ TabV (tabOf d).1 (tabOf d).2 := by
  unfold isShapeD at e
  split at e
  · rename_i h ss
    simp only [Bool.and_eq_true, decide_eq_true_eq] at e
    obtain ⟨⟨⟨e1, e2⟩, e3⟩, e4⟩ := e
    refine ⟨?_, e1, e2, by simpa [tabOf] using e3, fun s hs => ?_⟩
    · show PyData.tuple [.int h, .tuple ss] = .tuple [.int h, .tuple ((ss.map shOf).map shD)]
      rw [← ships_eq e4]
    · obtain ⟨d, hd, rfl⟩ := List.mem_map.mp (show s ∈ ss.map shOf from hs)
      exact (isShipD_eq (List.all_eq_true.mp e4 d hd)).2
  · cases e
theorem isShapeD_tb {h : Int} {ss : List (Int × Int)} (t : TabV h ss) : isShapeD (tbD h ss) = true := by
  show (decide (1 ≤ h) && decide (h ≤ 1000) && decide ((ss.map shD).length ≤ 24) && (ss.map shD).all (isShipD h)) = true
  simp only [Bool.and_eq_true, decide_eq_true_eq, List.length_map, List.all_map, List.all_eq_true]
  refine ⟨⟨⟨t.h1, t.h2⟩, t.n⟩, fun s hs => ?_⟩
  have := t.sh s hs
  simp only [Function.comp, shD, isShipD, inRangeD, Bool.and_eq_true, decide_eq_true_eq]
  omega
theorem tabOf_tb {h : Int} {ss : List (Int × Int)} : tabOf (tbD h ss) = (h, ss) := by
  show (h, (ss.map shD).map shOf) = (h, ss)
  rw [List.map_map]
  have : (shOf ∘ shD) = (id : Int × Int → Int × Int) := funext fun s => rfl
  rw [this, List.map_id]
abbrev spIsTable (K : PySem.W.Frag) : Sp := Pr fun vs H Q _ => ∃ v, vs = [v] ∧ ((∃ t, TyX K H v (.type t) ∧ kitB t "tuple" = some false ∧ Q (.bl false) H) ∨
  ∃ d, Dp K H v d ∧ (isShapeD d = true → Tp H v d) ∧ ∀ H', Kp [] H H' → Q (.bl (isTableD d)) H')
theorem dpAll_at {H : Hp} {xs : List V} {ds : List PyData} : DpAll K H xs ds → ∀ {i : Nat} {x : V}, xs[i]? = some x → ∃ d, ds[i]? = some d ∧ Dp K H x d
  | .nil, _, _, e => by simp at e
  | .cons h _, 0, _, e => by simp at e; subst e; exact ⟨_, rfl, h⟩
  | .cons _ t, i + 1, _, e => by
    obtain ⟨d, h1, h2⟩ := dpAll_at t (i := i) (by simpa using e)
    exact ⟨d, by simpa using h1, h2⟩
theorem dp_tupE {H : Hp} {v : V} {ds : List PyData} (h : Dp K H v (.tuple ds)) : ∃ a xs, v = .ref a ∧ SqT K H a xs ∧ DpAll K H xs ds := by
  cases h with
  | tup h1 h2 => exact ⟨_, _, rfl, h1, h2⟩
mutual
theorem Dp.ext {H H' : Hp} (k : Kp [] H H') : ∀ (d : PyData) (v : V), Dp K H v d → Dp K H' v d
  | .none, _, h => by cases h; exact .non
  | .bool _, _, h => by cases h; exact .bl _
  | .int _, _, h => by cases h; exact .int _
  | .str _, _, h => by cases h; exact .str _
  | .dict _, _, h => by cases h
  | .list ds, _, h => by
    cases h with
    | lst h1 h2 => exact .lst (sqL_kp k (by simp) h1) (DpAll.ext k ds _ h2)
  | .tuple ds, _, h => by
    cases h with
    | tup h1 h2 =>
      refine .tup ?_ (DpAll.ext k ds _ h2)
      rcases h1 with (h1 | ⟨o, h1⟩) | h1
      · exact .inl (.inl (k.keep _ _ h1 (by simp)))
      · exact .inl (.inr ⟨o, k.keep _ _ h1 (by simp)⟩)
      · exact .inr h1
theorem DpAll.ext {H H' : Hp} (k : Kp [] H H') : ∀ (ds : List PyData) (vs : List V), DpAll K H vs ds → DpAll K H' vs ds
  | [], _, h => by cases h; exact .nil
  | d :: ds, _, h => by
    cases h with
    | cons h1 h2 => exact .cons (Dp.ext k d _ h1) (DpAll.ext k ds _ h2)
end
theorem sqT_ext {H H' : Hp} {a : Addr} {xs : List V} (k : Kp [] H H') (h1 : SqT K H a xs) : SqT K H' a xs := by
  rcases h1 with (h1 | ⟨o, h1⟩) | h1
  · exact .inl (.inl (k.keep _ _ h1 (by simp)))
  · exact .inl (.inr ⟨o, k.keep _ _ h1 (by simp)⟩)
  · exact .inr h1
theorem isShapeD_no1 {ds : List PyData} (h : ∀ a b, ds ≠ [a, b]) : isShapeD (.tuple ds) = false := by
  unfold isShapeD
  split
  · rename_i e; injection e with e; exact absurd e (h _ _)
  · rfl
theorem isShapeD_no2 {d1 d2 : PyData} (h : ∀ i, d1 ≠ .int i) : isShapeD (.tuple [d1, d2]) = false := by
  unfold isShapeD
  split
  · rename_i e; injection e with e; injection e with e1 e2; exact absurd e1 (h _)
  · rfl
theorem isShapeD_no3 {d1 d2 : PyData} (h : ∀ xs, d2 ≠ .tuple xs) : isShapeD (.tuple [d1, d2]) = false := by
  unfold isShapeD
  split
  · rename_i e; injection e with e; injection e with e1 e2; injection e2 with e2; exact absurd e2 (h _)
  · rfl
theorem ok_is_table (B : Bi mg) (T : TTab mg) (D_in_range : DefOk P w K mg base "in_range" 2 p_in_range [] (spInRange K)) (D_is_ship : DefOk P w K mg base "is_ship" 3 p_is_ship [] (spIsShip K)) (D_peak_of : DefOk P w K mg base "peak_of" 3 p_peak_of [] spPeakOf)
    (F : FunS K "is_table" "is_table" s_is_table [] [] f fd) (hm : mg "is_table" = some (.ref f)) : DefOk P w K mg base "is_table" 4 p_is_table [] (spIsTable K) := by
  have S := sc_is_table
  refine defOk F hm S (fun _ _ _ _ _ _ us hl => match us, hl with | [_], _ => rfl) (fun vs H Q E h => ?_) (fun cdv A outer s H vs Q E hr h => ?_)
  · obtain ⟨v, rfl, _⟩ := h
    rfl
  · obtain ⟨v, rfl, h⟩ := h
    refine ⟨_, (pss_cons (ps_if (PW.pt (pw_or (pt_not (pt_val (pe_callB call_isA (by rfl) B.isinstance (by decide +kernel) (pa_cons (pv 0) (pa_cons (pe_bltn (v := .ty "tuple") (by rfl) B.tuple (by decide +kernel) rfl) pa_nil))))) (pw_or (pt_cmpR op_ne (pe_callB call_len_seq (by rfl) B.len (by decide +kernel) (pa_cons (pv 0) pa_nil)) pe_int (nomark _)) (pw_or1 (pt_not (pt_val (pe_fn D_in_range (hr.mono (by decide)) passLB rfl (pa_cons (pe_ix ix_tup (pv 0) pe_int (fun _ _ => rfl)) (pa_cons pe_int (pa_cons (pe_gint (i := 1000) (by rfl) T.MOST_HOURS) pa_nil)))))))))) (pss_one (ps_ret pe_bl)) pss_nil)
      (pss_cons (ps_asg (pv 0) (pg_tup rfl (pgs_cons (pg_name (i := 1) S.nd rfl (Or.inr rfl)) (pgs_cons (pg_name (i := 2) S.nd rfl (Or.inl rfl)) pgs_nil))))
      (pss_cons (ps_if (PW.pt (pw_or (pt_not (pt_val (pe_callB call_isA (by rfl) B.isinstance (by decide +kernel) (pa_cons (pv 2) (pa_cons (pe_bltn (v := .ty "tuple") (by rfl) B.tuple (by decide +kernel) rfl) pa_nil))))) (pw_or (pt_cmpR op_gt (pe_callB call_len_seq (by rfl) B.len (by decide +kernel) (pa_cons (pv 2) pa_nil)) (pe_gint (i := 24) (by rfl) T.MOST_SHIPS) (nomark _)) (pw_or1 (pt_not (pt_val (pe_callB (cr_all rfl) (by rfl) B.all (by decide +kernel) (pa_cons (pe_lc (own := [("ship", 3)]) (g := (gName 3)) (tt := tYes) (by rfl) S.nd (pi_tup (pv 2)) (blkOk_by (own := [("ship", 3)]) (N := n_is_table) (sc := defScope s_is_table) (by decide +kernel)) (fun _ _ _ _ _ => (pg_name (i := 3) S.nd rfl (Or.inl rfl))) (fun _ _ _ _ _ => pts_nil) (fun _ _ _ _ _ => (pe_fn D_is_ship (hr.mono (by decide)) passLB rfl (pa_cons (pv 1) (pa_cons (pv 3) pa_nil))))) pa_nil)))))))) (pss_one (ps_ret pe_bl)) pss_nil)
      (pss_one (ps_ret (pe_cmpR op_le (pe_fn D_peak_of (hr.mono (by decide)) passLB rfl (pa_cons (pv 0) pa_nil)) (pe_gint (i := 60) (by rfl) T.MOST_PEAK) (nomark _))))))), ?_⟩
    rcases h with ⟨t, ty, hk, q⟩ | ⟨d, hd, htp, q⟩
    · refine ⟨_, rfl, v, t, "tuple", false, rfl, ty, hk, false, rfl, ?_⟩
      exact q
    · by_cases ht : ∃ xs, d = .tuple xs
      · obtain ⟨ds, rfl⟩ := ht
        obtain ⟨a, xs, rfl, hs, ha⟩ := dp_tupE hd
        refine ⟨_, rfl, .ref a, "tuple", "tuple", true, rfl, sqT_ty hs, isTup_yes, true, rfl, ?_⟩
        refine ⟨_, rfl, a, xs, rfl, .inr hs, rfl, _, rfl, ?_⟩
        by_cases hl2 : ds.length = 2
        · obtain ⟨d1, d2, v1, v2, rfl, rfl, h1, h2⟩ := dpAll_two ha hl2
          refine iteNS rfl ?_
          refine ⟨_, rfl, a, _, _, v1, rfl, rfl, hs, rfl, ?_⟩
          refine inRange_dp h1 ?_
          refine ⟨_, rfl, ?_⟩
          cases e1 : inRangeD 1 1000 d1 with
          | false =>
            have e : isTableD (.tuple [d1, d2]) = false := by
              unfold isTableD
              cases hs : isShapeD (.tuple [d1, d2]) with
              | false => rfl
              | true =>
                unfold isShapeD at hs
                split at hs
                · rename_i h ss e
                  injection e with e
                  injection e with e _
                  subst e
                  simp only [inRangeD] at e1
                  rw [e1] at hs
                  simp at hs
                · cases hs
            have q' := q H (Kp.refl H)
            rw [e] at q'
            exact q'
          | true =>
            obtain ⟨h, rfl⟩ : ∃ h, d1 = .int h := by
              cases d1 with
              | int i => exact ⟨i, rfl⟩
              | _ => cases e1
            cases h1
            have e1' : 1 ≤ h ∧ h ≤ 1000 := by
              simpa [inRangeD] using e1
            -- hours, ships = value
            refine ⟨_, rfl, a, _, rfl, hs, rfl, _, _, rfl, _, _, rfl, rfl, ?_⟩
            by_cases ht2 : ∃ ss, d2 = .tuple ss
            · obtain ⟨ss, rfl⟩ := ht2
              obtain ⟨b, ys, rfl, hs2, ha2⟩ := dp_tupE h2
              have hyl := dpAll_len ha2
              refine ⟨_, rfl, .ref b, "tuple", "tuple", true, rfl, sqT_ty hs2, isTup_yes, true, rfl, ?_⟩
              refine ⟨_, rfl, b, ys, rfl, .inr hs2, _, _, rfl, rfl, _, rfl, ?_⟩
              by_cases hlen : (24 : Int) < (ys.length : Int)
              · refine iteT' (decide_eq_true hlen) ?_
                have e : isTableD (.tuple [.int h, .tuple ss]) = false := by
                  have : ¬ ss.length ≤ 24 := by omega
                  simp [isTableD, isShapeD, this]
                have q' := q H (Kp.refl H)
                rw [e] at q'
                exact q'
              · refine iteF' (decide_eq_false hlen) ?_
                refine ⟨_, rfl, b, rfl, ⟨ys, hs2⟩, fun L hL => lc_data (walk_tup (K := K) (a := b) (xs := ys)) (fun i => match ss[i]? with | some d => [.bool (isShipD h d)] | none => []) hL (fun H4 k4 => sqT_ext k4 hs2) ?_ ?_⟩
                · rintro i x H4 H5 hi L1 ⟨rfl, hx4⟩
                  obtain ⟨d, he, te⟩ := dpAll_at ha2 hx4
                  refine ⟨wipe1 (by decide), ?_⟩
                  refine ⟨_, rfl, _, rfl, h, x, d, rfl, Dp.ext L1.kp _ _ te, ?_⟩
                  exact L1.fin (d := .bool (isShipD h d)) (by omega) hL hi (Kp.refl _) (by rw [he]) (.bl _)
                · intro H4 acc k4 hacc _ hT
                  rw [hyl, flatMap_one ss _ (fun d => .bool (isShipD h d)) (fun i x e => by rw [e])] at hT
                  rw [show (ss.map fun d => PyData.bool (isShipD h d)) = (ss.map (isShipD h)).map .bool by rw [List.map_map]; rfl] at hT
                  rw [tpAll_bls hT] at hacc
                  refine ⟨L, ss.map (isShipD h), rfl, SqL.of hacc, _, rfl, ?_⟩
                  have eall : (ss.map (isShipD h)).all id = ss.all (isShipD h) := by rw [List.all_map]; rfl
                  rw [eall]
                  cases e4 : ss.all (isShipD h) with
                  | false =>
                    have e : isTableD (.tuple [.int h, .tuple ss]) = false := by
                      simp [isTableD, isShapeD, e4]
                    have q' := q H4 k4
                    rw [e] at q'
                    exact q'
                  | true =>
                    have esh : isShapeD (.tuple [.int h, .tuple ss]) = true := by
                      have : ss.length ≤ 24 := by omega
                      simp [isShapeD, e4, e1', this]
                    obtain ⟨e5, tv⟩ := isShapeD_eq esh
                    have t := htp esh
                    rw [e5] at t
                    refine ⟨_, rfl, _, h, ss.map shOf, rfl, t.kp k4, tv.ok, fun H5 k5 => ?_⟩
                    refine ⟨_, _, rfl, rfl, ?_⟩
                    have q' := q H5 (k4.trans k5)
                    unfold isTableD at q'
                    rw [esh, Bool.true_and] at q'
                    exact q'
            · have hn : ∀ xs, d2 ≠ .tuple xs := fun xs e => ht2 ⟨xs, e⟩
              refine ⟨_, rfl, v2, tyN d2, "tuple", false, rfl, dp_ty h2, isTup_no hn, false, rfl, ?_⟩
              have e : isTableD (.tuple [.int h, d2]) = false := by
                unfold isTableD
                rw [isShapeD_no3 hn, Bool.false_and]
              have q' := q H (Kp.refl H)
              rw [e] at q'
              exact q'
        · have hne : ¬ (V.int (xs.length : Int) = V.int 2) := fun z => by
            injection z with z
            rw [dpAll_len ha] at z
            omega
          refine iteNN hne ?_
          have e : isTableD (.tuple ds) = false := by
            unfold isTableD
            rw [isShapeD_no1 (fun a b z => hl2 (by rw [z]; rfl)), Bool.false_and]
          have q' := q H (Kp.refl H)
          rw [e] at q'
          exact q'
      · have hn : ∀ xs, d ≠ .tuple xs := fun xs e => ht ⟨xs, e⟩
        refine ⟨_, rfl, v, tyN d, "tuple", false, rfl, dp_ty hd, isTup_no hn, false, rfl, ?_⟩
        have e : isTableD d = false := by
          cases d with
          | tuple xs => exact absurd rfl (hn xs)
          | _ => rfl
        have q' := q H (Kp.refl H)
        rw [e] at q'
        exact q'
/-! ### require_table -/
abbrev spReqTable (K : PySem.W.Frag) (CT : Addr) : Sp := Pr fun vs H Q E => ∃ v, vs = [v] ∧ ((∃ t, TyX K H v (.type t) ∧ kitB t "tuple" = some false ∧ E (.ref CT) none H) ∨
  ∃ d, Dp K H v d ∧ (isShapeD d = true → Tp H v d) ∧ ∀ H', Kp [] H H' → if isTableD d = true then Q .non H' else E (.ref CT) none H')
theorem ok_require_table {CT : Addr} (E_NoTable : ExcOk K mg "NoTable" CT) (D_is_table : DefOk P w K mg base "is_table" 4 p_is_table [] (spIsTable K))
    (F : FunS K "require_table" "require_table" s_require_table [] [] f fd) (hm : mg "require_table" = some (.ref f)) : DefOk P w K mg base "require_table" 5 p_require_table [] (spReqTable K CT) := by
  have S := sc_require_table
  refine defOk F hm S (fun _ _ _ _ _ _ us hl => match us, hl with | [_], _ => rfl) (fun vs H Q E h => ?_) (fun cdv A outer s H vs Q E hr h => ?_)
  · obtain ⟨v, rfl, _⟩ := h
    rfl
  · obtain ⟨v, rfl, h⟩ := h
    refine ⟨_, (pss_one (ps_if (pt_not (pt_val (pe_fn D_is_table (hr.mono (by decide)) passLB rfl (pa_cons (pv 0) pa_nil)))) (pss_one (L2N.ps_raise rfl takesB (L2N.pmk_own PySem.F.excBase_ValueError E_NoTable.x E_NoTable.g E_NoTable.k (raises_own E_NoTable.e E_NoTable.t) (by exact rfl)))) pss_nil)), ?_⟩
    rcases h with ⟨t, ty, hk, q⟩ | ⟨d, hd, htp, q⟩
    · exact ⟨_, rfl, v, rfl, .inl ⟨t, ty, hk, _, rfl, q⟩⟩
    · refine ⟨_, rfl, v, rfl, .inr ⟨d, hd, htp, fun H' k => ⟨_, rfl, ?_⟩⟩⟩
      have q' := q H' k
      cases e : isTableD d with
      | false => rw [e] at q'; exact q'
      | true => rw [e] at q'; exact q'
end
end Ba

set_option maxHeartbeats 400000
namespace Ba
open PySem PySem.Spec PyProof.Rows L2
theorem plain_pairs : ∀ l : List (Int × Int), PyData.plainAll (l.map shD) = true
  | [] => rfl
  | a :: l => by
    show (PyData.plain (shD a) && PyData.plainAll (l.map shD)) = true
    rw [plain_pairs l]; rfl
theorem depth_pairs : ∀ l : List (Int × Int), PyData.depthAll (l.map shD) ≤ 1
  | [] => by simp [PyData.depthAll]
  | a :: l => by
    have := depth_pairs l
    have h2 : (shD a).depth = 1 := by simp [shD, PyData.depth, PyData.depthAll]
    show max (shD a).depth (PyData.depthAll (l.map shD)) ≤ 1
    omega
end Ba

set_option maxHeartbeats 400000
namespace Ba
open PySem PySem.Spec PyProof.Rows L2
/-! ### the law's draws -/
structure PailAt (H : Hp) (a : Addr) (Z : Int) : Prop where
  ex : ∃ x y z : Int, H a = some (.lst [.int x, .int y, .int z]) ∧ 0 ≤ x ∧ 0 ≤ y ∧ y < 2 ^ 200 ∧ 0 ≤ z ∧ z ≤ Z
theorem PailAt.kp {H H' : Hp} {a : Addr} {Z : Int} {S : List Addr} (p : PailAt H a Z) (k : Kp S H H') (n : a ∉ S) : PailAt H' a Z := by
  obtain ⟨x, y, z, h, r⟩ := p
  exact ⟨x, y, z, k.keep _ _ h n, r⟩
theorem PailAt.mono {H : Hp} {a : Addr} {Z Z' : Int} (p : PailAt H a Z) (h : Z ≤ Z') : PailAt H a Z' := by
  obtain ⟨x, y, z, h1, h2, h3, h4, h5, h6⟩ := p
  exact ⟨x, y, z, h1, h2, h3, h4, h5, Int.le_trans h6 h⟩
theorem cpw {i j : Int} (h : i.natAbs < 2 ^ 400) (h0 : 0 ≤ j) (h1 : j ≤ 1000) : CPowW i j := ⟨h0, h1, Nat.lt_of_lt_of_le h (Nat.pow_le_pow_right (by decide) (by decide))⟩
section
variable {P : Program} {w : World} {K : PySem.W.Frag} {mg : Str → Option Value} {base : Heap} {f : Addr} {fd : FuncData}
abbrev spPail (K : PySem.W.Frag) : Sp := Pr fun vs H Q _ => ∃ (a : Addr) (ns : List Int) (k : Nat), vs = [.ref a, .int (k : Int)] ∧ SqL K H a (ns.map V.int) ∧ k < 1000000 ∧ ∀ p H', H p = none → Kp [] H H' → PailAt H' p 0 → Q (.ref p) H'
theorem ok_law_pail (B : Bi mg) (F : FunS K "_law_pail" "_law_pail" s__law_pail [] [] f fd) (hm : mg "_law_pail" = some (.ref f)) : DefOk P w K mg base "_law_pail" 1 p__law_pail [] (spPail K) := by
  have S := sc__law_pail
  refine defOk F hm S (fun _ _ _ _ _ _ us hl => match us, hl with | [_, _], _ => rfl) (fun vs H Q E h => ?_) (fun cdv A outer s H vs Q E hr h => ?_)
  · obtain ⟨_, _, _, rfl, _⟩ := h
    rfl
  · obtain ⟨a, ns, k, rfl, ha, hk, q⟩ := h
    refine ⟨_, (pss_cons (ps_set (i := 2) S.nd rfl (Or.inl rfl) pe_int)
      (pss_cons (ps_if (pt_cmpR op_lt (pv 1) (pe_callB call_len_seq (by rfl) B.len (by decide +kernel) (pa_cons (pv 0) pa_nil)) (nomark _)) (pss_one (ps_set (i := 2) S.nd rfl (Or.inl rfl) (pe_ix ix_list (pv 0) (pv 1) (fun _ _ => rfl)))) pss_nil)
      (pss_one (ps_ret (pe_lst (pa_cons (pe_callB (call_max2 rfl) (by rfl) B.max (by decide +kernel) (pa_cons pe_int (pa_cons (pe_op op_sub (pv 2) (pe_op op_powW pe_int pe_int)) pa_nil))) (pa_cons (pe_op op_add (pe_op op_mul (pe_op op_mod (pv 2) pe_int) pe_int) (pv 1)) (pa_cons pe_int pa_nil)))))))), ?_⟩
    have fin : ∀ (c : Int) (p : Addr), H p = none → PailAt (upd H p (.lst [.int (if c - 10 ^ (18 : Int).toNat > 0 then c - 10 ^ (18 : Int).toNat else 0), .int (c % 162259276829213363391578010288127 * 64 + k), .int 0])) p 0 := fun c p hp => by
      refine ⟨_, _, _, upd_same, ?_, ?_, ?_, Int.le_refl _, Int.le_refl _⟩
      · split <;> omega
      · omega
      · omega
    refine ⟨_, rfl, _, rfl, a, _, rfl, .inl ha, _, _, rfl, rfl, _, rfl, ?_⟩
    by_cases hlt : k < ns.length
    · refine iteT' (decide_eq_true (by rw [List.length_map]; omega)) ?_
      refine ⟨_, rfl, _, rfl, a, _, _, _, rfl, rfl, ha, atI_nat (show (ns.map V.int)[k]? = some (.int ns[k]) by rw [List.getElem?_map, List.getElem?_eq_getElem hlt]; rfl), ?_⟩
      refine ⟨_, rfl, _, _, rfl, rfl, cpw (by decide) (by decide) (by decide), _, _, rfl, rfl, _, _, rfl, _, rfl, _, _, rfl, rfl, (show (0:Int) < _ from by decide), _, _, rfl, rfl, .inr (by decide), _, rfl, _, _, rfl, rfl, (show (3:Nat) ≤ sizeLine from by decide), fun p hp => ?_⟩
      exact q p _ hp (Kp.new hp) (fin _ p hp)
    · refine iteF' (decide_eq_false (by rw [List.length_map]; omega)) ?_
      refine ⟨_, rfl, _, _, rfl, rfl, cpw (by decide) (by decide) (by decide), _, _, rfl, rfl, _, _, rfl, _, rfl, _, _, rfl, rfl, (show (0:Int) < _ from by decide), _, _, rfl, rfl, .inr (by decide), _, rfl, _, _, rfl, rfl, (show (3:Nat) ≤ sizeLine from by decide), fun p hp => ?_⟩
      exact q p _ hp (Kp.new hp) (fin _ p hp)
abbrev spDip : Sp := Pr fun vs H Q _ => ∃ (a : Addr) (many Z : Int), vs = [.ref a, .int many] ∧ PailAt H a Z ∧ Z < 2 ^ 60 ∧ 1 ≤ many ∧ many < 1073741824 ∧ ∀ r H', 0 ≤ r → r < many → Kp [a] H H' → PailAt H' a (Z + 1) → Q (.int r) H'
theorem abs_lt {i : Int} {n : Nat} (h0 : 0 ≤ i) (h : i < (n : Int)) : i.natAbs < n := by omega
theorem ok_law_dip (F : FunS K "_law_dip" "_law_dip" s__law_dip [] [] f fd) (hm : mg "_law_dip" = some (.ref f)) : DefOk P w K mg base "_law_dip" 1 p__law_dip [] spDip := by
  have S := sc__law_dip
  refine defOk F hm S (fun _ _ _ _ _ _ us hl => match us, hl with | [_, _], _ => rfl) (fun vs H Q E h => ?_) (fun cdv A outer s H vs Q E hr h => ?_)
  · obtain ⟨_, _, _, rfl, _⟩ := h
    rfl
  · obtain ⟨a, many, Z, rfl, ⟨x, y, z, ha, hx, hy, hy2, hz, hz2⟩, hZ, hm1, hm2, q⟩ := h
    refine ⟨_, (pss_cons (ps_if (pt_cmpR op_gt (pe_ix ix_list (pv 0) pe_int (fun _ _ => rfl)) pe_int (nomark _)) (pss_cons (ps_set (i := 2) S.nd rfl (Or.inl rfl) (pe_op op_mod (pe_ix ix_list (pv 0) pe_int (fun _ _ => rfl)) (pv 1)))
      (pss_cons (ps_asg (pe_op op_fdiv (pe_ix ix_list (pv 0) pe_int (fun _ _ => rfl)) (pv 1)) (pg_sub (pv 0) pe_int set_list))
      (pss_one (ps_ret (pv 2))))) pss_nil)
      (pss_cons (ps_asg (pe_op op_add (pe_ix ix_list (pv 0) pe_int (fun _ _ => rfl)) pe_int) (pg_sub (pv 0) pe_int set_list))
      (pss_cons (ps_set (i := 3) S.nd rfl (Or.inl rfl) (pe_op op_mod (pe_op op_powW (pe_op op_add (pe_ix ix_list (pv 0) pe_int (fun _ _ => rfl)) (pe_op op_mul pe_int (pe_ix ix_list (pv 0) pe_int (fun _ _ => rfl)))) pe_int) pe_int))
      (pss_cons (ps_set (i := 3) S.nd rfl (Or.inl rfl) (pe_op op_mod (pe_op op_powW (pe_op op_add (pv 3) (pe_op op_mul (pe_op op_mul pe_int (pe_ix ix_list (pv 0) pe_int (fun _ _ => rfl))) (pe_ix ix_list (pv 0) pe_int (fun _ _ => rfl)))) pe_int) pe_int))
      (pss_one (ps_ret (pe_op op_mod (pe_op op_fdiv (pv 3) pe_int) (pv 1)))))))), ?_⟩
    refine ⟨_, rfl, a, _, _, _, rfl, rfl, SqL.of ha, rfl, _, _, rfl, rfl, _, rfl, ?_⟩
    by_cases hpos : 0 < x
    · refine iteT' (decide_eq_true hpos) ?_
      refine ⟨_, rfl, a, _, _, _, rfl, rfl, SqL.of ha, rfl, _, rfl, _, _, rfl, rfl, hm1, ?_⟩
      refine ⟨_, rfl, a, _, _, _, rfl, rfl, SqL.of ha, rfl, _, rfl, _, _, rfl, rfl, ⟨hm1, hm2⟩, _, rfl, a, _, _, _, rfl, rfl, ha, rfl, ?_⟩
      refine ⟨_, rfl, ?_⟩
      exact q _ _ (Int.emod_nonneg _ (by omega)) (Int.emod_lt_of_pos _ hm1) ((Kp.refl _).put (by simp) ha lst_nt) ⟨x / many, y, z, upd_same, Int.ediv_nonneg hx (by omega), hy, hy2, hz, by omega⟩
    · refine iteF' (decide_eq_false hpos) ?_
      refine ⟨_, rfl, a, _, _, _, rfl, rfl, SqL.of ha, rfl, _, _, rfl, rfl, _, rfl, a, _, _, _, rfl, rfl, ha, rfl, ?_⟩
      have k1 : Kp [a] H (upd H a (.lst [.int x, .int y, .int (z + 1)])) := (Kp.refl _).put (by simp) ha lst_nt
      have a1 : (upd H a (.lst [.int x, .int y, .int (z + 1)])) a = some (.lst [.int x, .int y, .int (z + 1)]) := upd_same
      generalize hH1 : upd H a _ = H1
      have e1 : H1 = upd H a (.lst [.int x, .int y, .int (z + 1)]) := hH1.symm
      rw [← e1] at k1 a1
      have b1 : (y + 2654435761 * (z + 1)).natAbs < 2 ^ 400 := Nat.lt_of_lt_of_le (abs_lt (n := 2 ^ 201) (by omega) (by omega)) (by decide)
      refine ⟨_, rfl, a, _, _, _, rfl, rfl, SqL.of a1, rfl, _, rfl, a, _, _, _, rfl, rfl, SqL.of a1, rfl, _, _, rfl, rfl, .inl (by decide), _, _, rfl, rfl, _, _, rfl, rfl, cpw b1 (by decide) (by decide), _, _, rfl, rfl, (show (0:Int) < _ from by decide), ?_⟩
      have hm3 : ∀ u : Int, 0 ≤ u % 170141183460469231731687303715884105727 ∧ u % 170141183460469231731687303715884105727 < 170141183460469231731687303715884105727 := fun u => by omega
      obtain ⟨m1, m2⟩ := hm3 ((y + 2654435761 * (z + 1)) ^ (3 : Int).toNat)
      have hzz : 0 ≤ 40692 * (z + 1) * (z + 1) ∧ 40692 * (z + 1) * (z + 1) < 2 ^ 140 := by
        refine ⟨Int.mul_nonneg (by omega) (by omega), ?_⟩
        have h1 : 40692 * (z + 1) ≤ 2 ^ 76 := by omega
        have h2 : z + 1 ≤ 2 ^ 60 := by omega
        have := Int.mul_le_mul h1 h2 (by omega) (by omega)
        omega
      have b2 : ∀ u : Int, 0 ≤ u → u < 170141183460469231731687303715884105727 → (u + 40692 * (z + 1) * (z + 1)).natAbs < 2 ^ 400 := fun u m1 m2 => Nat.lt_of_lt_of_le (abs_lt (n := 2 ^ 201) (by omega) (by omega)) (by decide)
      refine ⟨_, rfl, _, rfl, a, _, _, _, rfl, rfl, SqL.of a1, rfl, _, _, rfl, rfl, .inl (by decide), _, rfl, a, _, _, _, rfl, rfl, SqL.of a1, rfl, _, _, rfl, rfl, .inr ⟨by omega, by omega⟩, _, _, rfl, rfl, _, _, rfl, rfl, cpw (b2 _ m1 m2) (by decide) (by decide), _, _, rfl, rfl, (show (0:Int) < _ from by decide), ?_⟩
      refine ⟨_, rfl, _, _, rfl, rfl, ⟨by decide, by decide⟩, _, rfl, _, _, rfl, rfl, hm1, ?_⟩
      exact q _ _ (Int.emod_nonneg _ (by omega)) (Int.emod_lt_of_pos _ hm1) k1 ⟨x, y, z + 1, a1, hx, hy, hy2, by omega, by omega⟩
end
end Ba

set_option maxHeartbeats 400000
namespace Ba
open PySem PySem.Spec PyProof.Rows L2
structure DrawT (h most : Int) (ss : List (Int × Int)) : Prop where
  n : (ss.length : Int) ≤ most
  sh : ∀ s ∈ ss, 0 ≤ s.1 ∧ s.1 < h ∧ 1 ≤ s.2 ∧ s.2 ≤ 10 * h
  tl : ∀ s ∈ ss.tail, s.2 ≤ 2 * h
section
variable {P : Program} {w : World} {K : PySem.W.Frag} {mg : Str → Option Value} {base : Heap} {f : Addr} {fd : FuncData}
abbrev spHours : Sp := Pr fun vs H Q _ => ∃ (a : Addr) (Z : Int), vs = [.ref a] ∧ PailAt H a Z ∧ Z < 2 ^ 50 ∧ ∀ h H', 1 ≤ h → h ≤ 1000 → Kp [a] H H' → PailAt H' a (Z + 3) → Q (.int h) H'
theorem ok_law_hours (D__law_dip : DefOk P w K mg base "_law_dip" 1 p__law_dip [] spDip) (F : FunS K "_law_hours" "_law_hours" s__law_hours [] [] f fd) (hm : mg "_law_hours" = some (.ref f)) : DefOk P w K mg base "_law_hours" 2 p__law_hours [] spHours := by
  have S := sc__law_hours
  refine defOk F hm S (fun _ _ _ _ _ _ us hl => match us, hl with | [_], _ => rfl) (fun vs H Q E h => ?_) (fun cdv A outer s H vs Q E hr h => ?_)
  · obtain ⟨_, _, rfl, _⟩ := h
    rfl
  · obtain ⟨a, Z, rfl, hp, hZ, q⟩ := h
    refine ⟨_, (pss_one (ps_ret (pe_ix ix_list (pe_lst (pa_cons (pe_op op_add pe_int (pe_fn D__law_dip (hr.mono (by decide)) passLB rfl (pa_cons (pv 0) (pa_cons pe_int pa_nil)))) (pa_cons pe_int (pa_cons pe_int (pa_cons (pe_op op_add pe_int (pe_fn D__law_dip (hr.mono (by decide)) passLB rfl (pa_cons (pv 0) (pa_cons pe_int pa_nil)))) pa_nil))))) (pe_fn D__law_dip (hr.mono (by decide)) passLB rfl (pa_cons (pv 0) (pa_cons pe_int pa_nil))) (fun _ _ => rfl)))), ?_⟩
    refine ⟨_, rfl, a, 4, Z, rfl, hp, by omega, by decide, by decide, fun r1 H1 a1 b1 k1 p1 => ⟨_, _, rfl, rfl, ?_⟩⟩
    refine ⟨_, rfl, a, 1000, Z + 1, rfl, p1, by omega, by decide, by decide, fun r2 H2 a2 b2 k2 p2 => ⟨_, _, rfl, rfl, ?_⟩⟩
    refine ⟨(show (4:Nat) ≤ sizeLine from by decide), fun L hL => ?_⟩
    have kL : Kp [] H2 (upd H2 L (.lst [.int (1 + r1), .int 12, .int 24, .int (1 + r2)])) := Kp.new hL
    have eL : (upd H2 L (.lst [.int (1 + r1), .int 12, .int 24, .int (1 + r2)])) L = some (.lst [.int (1 + r1), .int 12, .int 24, .int (1 + r2)]) := upd_same
    generalize hG : upd H2 L _ = H3
    have e3 : H3 = upd H2 L (.lst [.int (1 + r1), .int 12, .int 24, .int (1 + r2)]) := hG.symm
    rw [← e3] at kL eL
    have hLa : L ≠ a := fun z => by
      obtain ⟨x, y, zz, ha, _⟩ := p2
      rw [z, ha] at hL; cases hL
    refine ⟨_, rfl, a, 4, Z + 1 + 1, rfl, p2.kp kL (by simp), by omega, by decide, by decide, fun r3 H4 a3 b3 k3 p3 => ?_⟩
    have eL4 := k3.keep _ _ eL (by simp [hLa])
    have kk := ((k1.trans k2).trans (kL.mono (S' := [a]) (by simp))).trans k3
    have h3 : r3 = 0 ∨ r3 = 1 ∨ r3 = 2 ∨ r3 = 3 := by omega
    have p3' := p3.mono (show Z + 1 + 1 + 1 ≤ Z + 3 by omega)
    rcases h3 with rfl | rfl | rfl | rfl
    · exact ⟨L, _, _, _, rfl, rfl, SqL.of eL4, rfl, q _ H4 (by omega) (by omega) kk p3'⟩
    · exact ⟨L, _, _, _, rfl, rfl, SqL.of eL4, rfl, q _ H4 (by omega) (by omega) kk p3'⟩
    · exact ⟨L, _, _, _, rfl, rfl, SqL.of eL4, rfl, q _ H4 (by omega) (by omega) kk p3'⟩
    · exact ⟨L, _, _, _, rfl, rfl, SqL.of eL4, rfl, q _ H4 (by omega) (by omega) kk p3'⟩
end
end Ba

set_option maxHeartbeats 400000
namespace Ba
open PySem PySem.Spec PyProof.Rows L2
theorem tpAll_cons {H : Hp} {vs : List V} {d : PyData} {ds : List PyData} (h : TpAll H vs (d :: ds)) : ∃ v vr, vs = v :: vr ∧ Tp H v d ∧ TpAll H vr ds := by
  cases h with
  | cons h1 h2 => exact ⟨_, _, rfl, h1, h2⟩
theorem eqv_nilP (l : List (Int × Int)) : PyData.eqv (.list (l.map shD)) (.list []) = l.isEmpty := by cases l <;> rfl
section
variable {P : Program} {w : World} {K : PySem.W.Frag} {mg : Str → Option Value} {base : Heap} {f : Addr} {fd : FuncData}
theorem PailAt.ne {H : Hp} {a L : Addr} {Z : Int} (p : PailAt H a Z) (h : H L = none) : L ≠ a := fun z => by
  obtain ⟨x, y, zz, ha, _⟩ := p
  rw [z, ha] at h; cases h
abbrev spTable : Sp := Pr fun vs H Q _ => ∃ (a : Addr) (h most Z : Int), vs = [.ref a, .int h, .int most] ∧ PailAt H a Z ∧ Z < 2 ^ 50 ∧ 1 ≤ h ∧ h ≤ 1000 ∧ 0 ≤ most ∧ most ≤ 24 ∧
  ∀ v ss H', DrawT h most ss → Kp [a] H H' → PailAt H' a (Z + 100) → Tp H' v (tbD h ss) → Q v H'
theorem ok_law_table (B : Bi mg) (D__law_dip : DefOk P w K mg base "_law_dip" 1 p__law_dip [] spDip) (F : FunS K "_law_table" "_law_table" s__law_table [] [] f fd) (hm : mg "_law_table" = some (.ref f)) : DefOk P w K mg base "_law_table" 2 p__law_table [] spTable := by
  have S := sc__law_table
  refine defOk F hm S (fun _ _ _ _ _ _ us hl => match us, hl with | [_, _, _], _ => rfl) (fun vs H Q E h => ?_) (fun cdv A outer s H vs Q E hr h => ?_)
  · obtain ⟨_, _, _, _, rfl, _⟩ := h
    rfl
  · obtain ⟨a, h, most, Z, rfl, hp, hZ, hh1, hh2, hm1, hm2, q⟩ := h
    refine ⟨_, (pss_cons (ps_set (i := 3) S.nd rfl (Or.inl rfl) (pe_lst pa_nil))
      (pss_cons (ps_for (passes_of rfl) rfl (pi_range1 (by rfl) B.range (pa_cons (pe_fn D__law_dip (hr.mono (by decide)) passLB rfl (pa_cons (pv 0) (pa_cons (pe_op op_add (pv 2) pe_int) pa_nil))) pa_nil)) (pg_name (i := 4) S.nd rfl (Or.inl rfl))
      (pss_cons (ps_set (i := 5) S.nd rfl (Or.inl rfl) (pe_ix ix_list (pe_lst (pa_cons (pv 1) (pa_cons (pe_op op_mul pe_int (pv 1)) pa_nil))) (pe_fn D__law_dip (hr.mono (by decide)) passLB rfl (pa_cons (pv 0) (pa_cons pe_int pa_nil))) (fun _ _ => rfl)))
      (pss_one (ps_expr (pe_bm PySem.F.plainAttrs_list PySem.F.slot_list_append PySem.F.type_list_append mt_append (pv 3) (pa_cons (pe_tup (pa_cons (pe_fn D__law_dip (hr.mono (by decide)) passLB rfl (pa_cons (pv 0) (pa_cons (pv 1) pa_nil))) (pa_cons (pe_op op_add pe_int (pe_fn D__law_dip (hr.mono (by decide)) passLB rfl (pa_cons (pv 0) (pa_cons (pv 5) pa_nil)))) pa_nil))) pa_nil))))))
      (pss_cons (ps_if (PW.pt (pw_and (pt_cmpR (op_neP hr.units) (pv 3) (pe_lst pa_nil) (nomark _)) (pw_and1 (pt_cmpR op_eq (pe_fn D__law_dip (hr.mono (by decide)) passLB rfl (pa_cons (pv 0) (pa_cons pe_int pa_nil))) pe_int (nomark _))))) (pss_one (ps_asg (pe_tup (pa_cons (pe_ix ix_tup (pe_ix ix_list (pv 3) pe_int (fun _ _ => rfl)) pe_int (fun _ _ => rfl)) (pa_cons (pe_op op_add pe_int (pe_fn D__law_dip (hr.mono (by decide)) passLB rfl (pa_cons (pv 0) (pa_cons (pe_op op_mul pe_int (pv 1)) pa_nil)))) pa_nil))) (pg_sub (pv 3) pe_int set_list))) pss_nil)
      (pss_one (ps_ret (pe_tup (pa_cons (pv 1) (pa_cons (pe_callTy call_tuple_of (by rfl) B.tuple (by decide +kernel) (pa_cons (pv 3) pa_nil)) pa_nil)))))))), ?_⟩
    refine ⟨(show (0:Nat) ≤ sizeLine from by decide), fun L hL => ?_⟩
    have kL : Kp [] H (upd H L (.lst [])) := Kp.new hL
    have eL : (upd H L (.lst [])) L = some (.lst []) := upd_same
    have hLa : L ≠ a := hp.ne hL
    generalize upd H L (.lst []) = H1 at kL eL ⊢
    refine ⟨_, rfl, _, rfl, _, _, rfl, rfl, a, _, Z, rfl, hp.kp kL (by simp), by omega, by omega, by omega, fun r H2 r0 r1 k2 p2 => ?_⟩
    have eL2 := k2.keep _ _ eL (by simp [hLa])
    have hLs : ∀ {X : Hp}, Kp [a, L] H1 X → Kp [a] H X := fun k => ((kL.mono (S' := [a, L]) (by simp)).trans k).less (fun b hb => by
      have hb : b = a ∨ b = L := by simpa using hb
      rcases hb with z | z
      · exact .inl (by simp [z])
      · exact .inr (by rw [z]; exact hL))
    refine ⟨r, rfl, by omega, by omega, for_it (walk_range (lo := 0) (n := r.toNat)) (fun i σ G => ∃ (o4 o5 : Option V) (acc : List V) (ss : List (Int × Int)), σ = [some (.ref a), some (.int h), some (.int most), some (.ref L), o4, o5] ∧ G L = some (.lst acc) ∧ TpAll G acc (ss.map shD) ∧ ss.length = i ∧ (∀ s ∈ ss, 0 ≤ s.1 ∧ s.1 < h ∧ 1 ≤ s.2 ∧ s.2 ≤ 2 * h) ∧ Kp [a, L] H1 G ∧ PailAt G a (Z + 1 + 3 * i))
      ⟨none, none, [], [], rfl, eL2, .nil, rfl, by simp, k2.mono (by simp), by simpa using p2⟩ (fun _ _ _ _ _ => trivial) ?_ ?_⟩
    · rintro i x σ H3 H4 hi ⟨o4, o5, acc, ss, rfl, hacc, hT, hsl, hb, k3, p3⟩ ⟨rfl, rfl⟩
      have hi24 : i < 24 := by omega
      -- wide
      refine ⟨_, rfl, _, rfl, _, _, rfl, rfl, .inl (by decide), (show (2:Nat) ≤ sizeLine from by decide), fun W hW => ?_⟩
      have kW : Kp [] H4 (upd H4 W (.lst [.int h, .int (2 * h)])) := Kp.new hW
      have eW : (upd H4 W (.lst [.int h, .int (2 * h)])) W = some (.lst [.int h, .int (2 * h)]) := upd_same
      have hWa : W ≠ a := p3.ne hW
      have hWL : W ≠ L := fun z => by rw [z, hacc] at hW; cases hW
      generalize hG : upd H4 W _ = H5
      have e5 : H5 = upd H4 W (.lst [.int h, .int (2 * h)]) := hG.symm
      rw [← e5] at kW eW
      refine ⟨_, rfl, a, 2, _, rfl, p3.kp kW (by simp), by omega, by decide, by decide, fun r1 H6 a1 b1 k6 p6 => ?_⟩
      obtain ⟨wd, hw1, hw2, hat⟩ : ∃ wd, (1 ≤ wd) ∧ wd ≤ 2 * h ∧ atI [V.int h, V.int (2 * h)] r1 = some (V.int wd) := by
        have : r1 = 0 ∨ r1 = 1 := by omega
        rcases this with rfl | rfl
        · exact ⟨h, by omega, by omega, rfl⟩
        · exact ⟨2 * h, by omega, by omega, rfl⟩
      refine ⟨W, _, _, _, rfl, rfl, SqL.of (k6.keep _ _ eW (by simp [hWa])), hat, ?_⟩
      -- append
      have hacc6 := k6.keep _ _ (kW.keep _ _ hacc (by simp)) (by simp [hLa])
      refine ⟨_, rfl, .inl ⟨rfl, _, SqL.of hacc6⟩, ?_⟩
      refine ⟨_, rfl, _, rfl, a, h, _, rfl, p6, by omega, by omega, by omega, fun r2 H7 a2 b2 k7 p7 => ?_⟩
      refine ⟨_, rfl, _, rfl, a, wd, _, rfl, p7, by omega, hw1, by omega, fun r3 H8 a3 b3 k8 p8 => ⟨_, _, rfl, rfl, ?_⟩⟩
      refine ⟨(show (2:Nat) ≤ sizeLine from by decide), fun t ht => ?_⟩
      have kt : Kp [] H8 (upd H8 t (.tup [.int r2, .int (1 + r3)])) := Kp.new ht
      have et : (upd H8 t (.tup [.int r2, .int (1 + r3)])) t = some (.tup [.int r2, .int (1 + r3)]) := upd_same
      generalize hG : upd H8 t _ = H9
      have e9 : H9 = upd H8 t (.tup [.int r2, .int (1 + r3)]) := hG.symm
      rw [← e9] at kt et
      have hacc9 := kt.keep _ _ (k8.keep _ _ (k7.keep _ _ hacc6 (by simp [hLa])) (by simp [hLa])) (by simp)
      have hal := tpAll_mlen hT
      refine ⟨L, acc, _, rfl, rfl, hacc9, Nat.lt_trans (show acc.length < 100 by omega) (by decide), ?_⟩
      have kf : Kp [L] H9 (upd H9 L (.lst (acc ++ [.ref t]))) := (Kp.refl _).put (by simp) hacc9 lst_nt
      have k49 : Kp [a] H4 H9 := (((kW.mono (S' := [a]) (by simp)).trans k6).trans (k7.trans k8)).trans (kt.mono (by simp))
      refine ⟨_, _, acc ++ [.ref t], ss ++ [(r2, 1 + r3)], rfl, upd_same, ?_, by rw [List.length_append, hsl]; rfl, ?_, k3.trans ((k49.mono (by simp)).trans (kf.mono (by simp))), ?_⟩
      · rw [List.map_append]
        exact ((hT.kp k49).kp kf).append (.cons (.tup (kf.tup _ _ et) (.cons (.int _) (.cons (.int _) .nil))) .nil)
      · intro s hs
        rcases List.mem_append.mp hs with hs | hs
        · exact hb s hs
        · obtain rfl : s = (r2, 1 + r3) := by simpa using hs
          simp only
          omega
      · exact ((p8.kp kt (by simp)).kp kf (by simp [hLa.symm])).mono (by push_cast; omega)
    · rintro σ H3 ⟨o4, o5, acc, ss, rfl, hacc, hT, hsl, hb, k3, p3⟩
      have hr24 : r.toNat ≤ 24 := by omega
      -- if ships != []
      refine ⟨_, rfl, (show (0:Nat) ≤ sizeLine from by decide), fun W hW => ?_⟩
      have kW : Kp [] H3 (upd H3 W (.lst [])) := Kp.new hW
      have eW : (upd H3 W (.lst [])) W = some (.lst []) := upd_same
      generalize upd H3 W (.lst []) = H4 at kW eW ⊢
      have hacc4 := kW.keep _ _ hacc (by simp)
      have hT4 := hT.kp kW
      have p4 := p3.kp kW (by simp)
      have k4 := k3.trans (kW.mono (S' := [a, L]) (by simp))
      refine ⟨.list (ss.map shD), .list [], .lst (SqL.of hacc4) (TpAll.dp _ _ hT4), .lst (SqL.of eW) .nil, plain_pairs ss, rfl, ?_, _, rfl, ?_⟩
      · have := depth_pairs ss
        show PyData.depthAll (ss.map shD) + 1 ≤ 60
        omega
      rw [eqv_nilP]
      have hd0 : DrawT h most ss := ⟨by omega, fun s hs => by have := hb s hs; omega, fun s hs => (hb s (List.mem_of_mem_tail hs)).2.2.2⟩
      cases hem : ss.isEmpty
      case' true =>
        obtain ⟨H5, hH5, kk⟩ : ∃ H5, H4 = H5 ∧ Kp [a, L] H4 H5 := ⟨_, rfl, Kp.refl _⟩
        have hacc5 : H5 L = some (.lst acc) := by rw [← hH5]; exact hacc4
        have hT5 : TpAll H5 acc (ss.map shD) := by rw [← hH5]; exact hT4
        have p5 : PailAt H5 a (Z + 100) := by rw [← hH5]; exact p4.mono (by omega)
        rw [hH5]
      case' false =>
        refine ⟨_, rfl, a, 6, _, rfl, p4, by omega, by decide, by decide, fun r4 H5 a4 b4 k5 p5 => ⟨rfl, _, rfl, ?_⟩⟩
        by_cases h0 : r4 = 0
        case' neg =>
          have hacc5 := k5.keep _ _ hacc4 (by simp [hLa])
          have hT5 := hT4.kp k5
          have p5 : PailAt H5 a (Z + 100) := p5.mono (by omega)
          have kk : Kp [a, L] H4 H5 := k5.mono (by simp)
          refine iteF' (decide_eq_false (fun z => h0 (by injection z))) ?_
        case' pos =>
          refine iteT' (decide_eq_true (by rw [h0])) ?_
          obtain ⟨s0, sr, rfl⟩ : ∃ s0 sr, ss = s0 :: sr := by
            cases ss with
            | nil => cases hem
            | cons s0 sr => exact ⟨s0, sr, rfl⟩
          have hT5 := hT4.kp k5
          have hacc5 := k5.keep _ _ hacc4 (by simp [hLa])
          rw [List.map_cons] at hT5
          obtain ⟨v0, vr, rfl, ht0, htr⟩ := tpAll_cons hT5
          obtain ⟨c0, rfl, hc0⟩ := tp_ship ht0
          refine ⟨_, rfl, L, _, _, _, rfl, rfl, SqL.of hacc5, atI_nat (j := 0) rfl, c0, _, _, _, rfl, rfl, SqT.of hc0, rfl, ?_⟩
          refine ⟨_, rfl, _, rfl, _, _, rfl, rfl, .inl (by decide), a, _, _, rfl, p5, by omega, by omega, by omega, fun r5 H6 a5 b5 k6 p6 => ⟨_, _, rfl, rfl, ?_⟩⟩
          refine ⟨(show (2:Nat) ≤ sizeLine from by decide), fun t ht => ?_⟩
          have kt : Kp [] H6 (upd H6 t (.tup [.int s0.1, .int (1 + r5)])) := Kp.new ht
          have et : (upd H6 t (.tup [.int s0.1, .int (1 + r5)])) t = some (.tup [.int s0.1, .int (1 + r5)]) := upd_same
          generalize hG : upd H6 t _ = H7
          have e7 : H7 = upd H6 t (.tup [.int s0.1, .int (1 + r5)]) := hG.symm
          rw [← e7] at kt et
          have hacc7 := kt.keep _ _ (k6.keep _ _ hacc5 (by simp [hLa])) (by simp)
          refine ⟨_, rfl, L, _, _, 0, rfl, rfl, hacc7, (show ixN (vr.length + 1) 0 = some 0 by unfold ixN; simp), ?_⟩
          have kf : Kp [L] H7 (upd H7 L (.lst (.ref t :: vr))) := (Kp.refl _).put (by simp) hacc7 lst_nt
          have k57 : Kp [a] H5 H7 := k6.trans (kt.mono (by simp))
          have hT5 : TpAll (upd H7 L (.lst (.ref t :: vr))) (.ref t :: vr) (((s0.1, 1 + r5) :: sr).map shD) := .cons (.tup (kf.tup _ _ et) (.cons (.int _) (.cons (.int _) .nil))) ((htr.kp k57).kp kf)
          have hacc5 : (upd H7 L (.lst (.ref t :: vr))) L = some (.lst (.ref t :: vr)) := upd_same
          have p5 : PailAt (upd H7 L (.lst (.ref t :: vr))) a (Z + 100) := ((p6.kp kt (by simp)).kp kf (by simp [hLa.symm])).mono (by omega)
          have kk : Kp [a, L] H4 (upd H7 L (.lst (.ref t :: vr))) := ((k5.trans k57).mono (by simp)).trans (kf.mono (by simp))
          have hd0 : DrawT h most ((s0.1, 1 + r5) :: sr) := by
            refine ⟨by have := hd0.n; simpa using this, fun s hs => ?_, hd0.tl⟩
            rcases List.mem_cons.mp hs with rfl | hs
            · have := hb s0 (by simp)
              simp only
              omega
            · exact hd0.sh s (List.mem_cons_of_mem _ hs)
      all_goals
        have k9 := hLs (k4.trans kk)
        refine ⟨_, rfl, _, rfl, L, _, rfl, .inl ⟨SqL.of hacc5, fun t ht => ⟨(show (2:Nat) ≤ sizeLine from by decide), fun t2 ht2 => ?_⟩⟩⟩
        refine q _ _ _ hd0 (k9.trans ((Kp.new ht).trans (Kp.new ht2))) ((p5.kp (Kp.new (S := []) ht) (by simp)).kp (Kp.new (S := []) ht2) (by simp)) ?_
        exact .tup upd_same (.cons (.int _) (.cons (.tup (TK.new ht2 _ _ upd_same) ((hT5.new ht).new ht2)) .nil))
end
end Ba

set_option maxHeartbeats 400000
namespace Ba
open PySem PySem.Spec PyProof.Rows L2
def ltP (a b : Int × Int) : Bool := PySem.W.dataLt (shD a) (shD b)
def pkT (h : Int) (k : Nat) (s : Int × Int) (j : Nat) (o : Int × Int) : Int := (if -((s.1 - o.1 - o.2) / h) > 0 then -((s.1 - o.1 - o.2) / h) else 0) - (if ltP (s.1, (k : Int)) (o.1, (j : Int)) = true then 1 else 0)
def pkK (h : Int) (ss : List (Int × Int)) (k : Nat) (s : Int × Int) : Int := (ss.mapIdx (pkT h k s)).sum
def mx (f x : Int) : Int := if x > f then x else f
def lawPk (h : Int) (ss : List (Int × Int)) : Int := (ss.mapIdx (pkK h ss)).foldl mx 0
end Ba

set_option maxHeartbeats 400000
namespace Ba
open PySem PySem.Spec PyProof.Rows L2
/-! ### the plain law: the peak -/
theorem ltP_eq (a b : Int × Int) : ltP a b = decide (a.1 < b.1 ∨ (a.1 = b.1 ∧ a.2 < b.2)) := PySem.W.dataLt_ii a.1 a.2 b.1 b.2
theorem lt5 (a b : Ev5) : PySem.W.dataLt (enc5 a) (enc5 b) = decide (([a.1, a.2.1, a.2.2.1, a.2.2.2.1, a.2.2.2.2] : List Int) < [b.1, b.2.1, b.2.2.1, b.2.2.2.1, b.2.2.2.2]) := by
  rw [← PySem.W.dataLt_ints]
  exact PySem.W.dataLt_tuple _ _
theorem ediv_bound {h x c : Int} (h1 : 1 ≤ h) (hx : -(c * h) ≤ x) : -(x / h) ≤ c := by
  have h2 : -c ≤ x / h := by
    rw [Int.le_ediv_iff_mul_le (by omega)]
    rw [Int.neg_mul]
    exact hx
  omega
theorem pkT_le {h c : Int} {k j : Nat} {s o : Int × Int} (h1 : 1 ≤ h) (hc : 0 ≤ c) (hs : 0 ≤ s.1 ∧ s.1 < h) (ho : 0 ≤ o.1 ∧ o.1 < h) (hl : o.2 ≤ c * h) : pkT h k s j o ≤ c := by
  unfold pkT
  rw [ltP_eq]
  by_cases hgt : s.1 < o.1
  · have e : decide ((s.1, (k : Int)).1 < (o.1, (j : Int)).1 ∨ ((s.1, (k : Int)).1 = (o.1, (j : Int)).1 ∧ (s.1, (k : Int)).2 < (o.1, (j : Int)).2)) = true := decide_eq_true (.inl hgt)
    rw [if_pos e]
    have := ediv_bound (h := h) (x := s.1 - o.1 - o.2) (c := c + 1) h1 (by rw [Int.add_mul]; omega)
    split <;> omega
  · have := ediv_bound (h := h) (x := s.1 - o.1 - o.2) (c := c) h1 (by omega)
    split <;> split <;> omega
theorem sum_mapIdx_le (f : Nat → Int × Int → Int) (c : Int) : ∀ (l : List (Int × Int)) (n : Nat), (∀ i x, x ∈ l → f i x ≤ c) → ((l.mapIdx fun i x => f (n + i) x)).sum ≤ l.length * c
  | [], _, _ => by simp
  | a :: l, n, h => by
    rw [List.mapIdx_cons, List.sum_cons]
    have h1 := h (n + 0) a (by simp)
    have h2 := sum_mapIdx_le f c l (n + 1) (fun i x hx => h i x (List.mem_cons_of_mem _ hx))
    have e : (l.mapIdx fun i x => f (n + (i + 1)) x) = l.mapIdx fun i x => f (n + 1 + i) x := by
      congr 1
      funext i x
      rw [Nat.add_comm i 1, ← Nat.add_assoc]
    rw [e]
    have e3 : ((a :: l).length : Int) * c = l.length * c + c := by
      rw [List.length_cons]
      push_cast
      rw [Int.add_mul, Int.one_mul]
    omega
theorem pkK_le {h most : Int} {ss : List (Int × Int)} (h1 : 1 ≤ h) (hm : most ≤ 24) (d : DrawT h most ss) {k : Nat} {s : Int × Int} (hs : 0 ≤ s.1 ∧ s.1 < h) : pkK h ss k s ≤ 56 := by
  unfold pkK
  cases ss with
  | nil => simp
  | cons a l =>
    rw [List.mapIdx_cons, List.sum_cons]
    have ha := d.sh a (by simp)
    have h2 := pkT_le (k := k) (j := 0) (s := s) (o := a) h1 (by decide : (0 : Int) ≤ 10) hs ⟨ha.1, ha.2.1⟩ ha.2.2.2
    have h3 := sum_mapIdx_le (fun i x => pkT h k s i x) 2 l 1 (fun i x hx => by
      have hx1 := d.sh x (List.mem_cons_of_mem _ hx)
      have hx2 := d.tl x hx
      exact pkT_le h1 (by decide) hs ⟨hx1.1, hx1.2.1⟩ hx2)
    have e : (l.mapIdx fun i => pkT h k s (i + 1)) = l.mapIdx fun i x => pkT h k s (1 + i) x := by
      congr 1
      funext i
      rw [Nat.add_comm]
    rw [e]
    have := d.n
    rw [List.length_cons] at this
    omega
theorem foldl_mx_le (c : Int) : ∀ (l : List Int) (a : Int), a ≤ c → (∀ x ∈ l, x ≤ c) → l.foldl mx a ≤ c
  | [], a, h, _ => h
  | x :: l, a, h, hl => by
    refine foldl_mx_le c l _ ?_ (fun y hy => hl y (List.mem_cons_of_mem _ hy))
    unfold mx
    have := hl x (by simp)
    split <;> omega
theorem le_foldl_mx : ∀ (l : List Int) (a : Int), a ≤ l.foldl mx a ∧ ∀ x ∈ l, x ≤ l.foldl mx a
  | [], a => ⟨Int.le_refl _, fun x hx => by simp at hx⟩
  | y :: l, a => by
    have ih := le_foldl_mx l (mx a y)
    have hm : a ≤ mx a y ∧ y ≤ mx a y := by unfold mx; split <;> omega
    refine ⟨Int.le_trans hm.1 ih.1, fun x hx => ?_⟩
    rcases List.mem_cons.mp hx with rfl | hx
    · exact Int.le_trans hm.2 ih.1
    · exact ih.2 x hx
theorem lawPk_le {h most : Int} {ss : List (Int × Int)} (h1 : 1 ≤ h) (hm : most ≤ 24) (d : DrawT h most ss) : lawPk h ss ≤ 56 := by
  refine foldl_mx_le 56 _ 0 (by decide) (fun x hx => ?_)
  obtain ⟨i, hi, rfl⟩ := List.getElem_of_mem hx
  rw [List.length_mapIdx] at hi
  rw [List.getElem_mapIdx]
  have := d.sh ss[i] (List.getElem_mem hi)
  exact pkK_le h1 hm d ⟨this.1, this.2.1⟩
theorem lawPk_nonneg (h : Int) (ss : List (Int × Int)) : 0 ≤ lawPk h ss := (le_foldl_mx _ 0).1
theorem pkK_le_lawPk {h : Int} {ss : List (Int × Int)} {k : Nat} {s : Int × Int} (e : ss[k]? = some s) : pkK h ss k s ≤ lawPk h ss := by
  refine (le_foldl_mx _ 0).2 _ ?_
  rw [List.mem_iff_getElem?]
  exact ⟨k, by rw [List.getElem?_mapIdx, e]; rfl⟩
end Ba

set_option maxHeartbeats 400000
namespace Ba
open PySem PySem.Spec PyProof.Rows L2
theorem perm_sum {l m : List Int} (h : l.Perm m) : l.sum = m.sum := by
  induction h with
  | nil => rfl
  | cons a _ ih => rw [List.sum_cons, List.sum_cons, ih]
  | swap a b l => simp only [List.sum_cons]; omega
  | trans _ _ h1 h2 => rw [h1, h2]
def sg (e : Ev5) : Int := if e.2.1 = 1 then 1 else -1
theorem foldl_step : ∀ (l : List Ev5) (c : Int), l.foldl stepC c = c + (l.map sg).sum
  | [], c => by simp
  | e :: l, c => by
    rw [List.foldl_cons, foldl_step l, List.map_cons, List.sum_cons]
    show c + sg e + _ = _
    omega
theorem sum_mapIdx_add (f g : Nat → Int × Int → Int) : ∀ (l : List (Int × Int)) (n : Nat), (l.mapIdx fun i x => f (n + i) x + g (n + i) x).sum = (l.mapIdx fun i x => f (n + i) x).sum + (l.mapIdx fun i x => g (n + i) x).sum
  | [], n => rfl
  | a :: l, n => by
    have e : ∀ (h : Nat → Int × Int → Int), (l.mapIdx fun i x => h (n + (i + 1)) x) = l.mapIdx fun i x => h (n + 1 + i) x := fun h => by
      congr 1
      funext i x
      rw [Nat.add_comm i 1, ← Nat.add_assoc]
    rw [List.mapIdx_cons, List.mapIdx_cons, List.mapIdx_cons, List.sum_cons, List.sum_cons, List.sum_cons]
    have ih := sum_mapIdx_add f g l (n + 1)
    rw [e f, e g, e (fun i x => f i x + g i x), ih]
    omega
theorem sum_filter_mapIdx (q : Ev5 → Bool) (f : Nat → Int × Int → Ev5) : ∀ (l : List (Int × Int)) (n : Nat), (((l.mapIdx fun i x => f (n + i) x).filter q).map sg).sum = (l.mapIdx fun i x => if q (f (n + i) x) = true then sg (f (n + i) x) else 0).sum
  | [], n => rfl
  | a :: l, n => by
    have e : ∀ {β : Type} (h : Nat → Int × Int → β), (l.mapIdx fun i x => h (n + (i + 1)) x) = l.mapIdx fun i x => h (n + 1 + i) x := fun h => by
      congr 1
      funext i x
      rw [Nat.add_comm i 1, ← Nat.add_assoc]
    rw [List.mapIdx_cons, List.mapIdx_cons, List.sum_cons, e f, e (fun i x => if q (f i x) = true then sg (f i x) else 0), List.filter_cons]
    have ih := sum_filter_mapIdx q f l (n + 1)
    by_cases hq : q (f (n + 0) a) = true
    · rw [if_pos hq, if_pos hq, List.map_cons, List.sum_cons, ih]
    · rw [if_neg hq, if_neg hq, ih]
      omega
theorem map_mapIdx_sum (g : Int × Int → Int) : ∀ (l : List (Int × Int)), (l.map g).sum = (l.mapIdx fun _ x => g x).sum
  | [] => rfl
  | a :: l => by rw [List.map_cons, List.mapIdx_cons, List.sum_cons, List.sum_cons, map_mapIdx_sum g l]
theorem evs_pw (h : Int) (ss : List (Int × Int)) : (evs h ss).Pairwise (fun a b => PySem.W.dataLe false enc5 a b = true) := PySem.W.sort_pairwise (PySem.W.sortLe_total _ _ _) _
theorem evs_perm (h : Int) (ss : List (Int × Int)) : (evs h ss).Perm (ss.mapIdx (depEv h) ++ ss.mapIdx arrEv) := List.mergeSort_perm _ _
/-- before the arrival of ship k, or it -/
def qE (s : Int × Int) (k : Nat) (x : Ev5) : Bool := if x.2.1 = 1 then !ltP (s.1, (k : Int)) (x.1, x.2.2.2.2) else decide (x.1 ≤ s.1)
theorem le5 (a b : Ev5) : PySem.W.dataLe false enc5 a b = !PySem.W.dataLt (enc5 b) (enc5 a) := rfl
theorem evs_form {h : Int} {ss : List (Int × Int)} {x : Ev5} (hx : x ∈ evs h ss) : (∃ j o, ss[j]? = some o ∧ x = depEv h j o) ∨ (∃ j o, ss[j]? = some o ∧ x = arrEv j o) := by
  have hx := (evs_perm h ss).mem_iff.mp hx
  rcases List.mem_append.mp hx with hx | hx
  · obtain ⟨i, hi, rfl⟩ := List.getElem_of_mem hx
    rw [List.length_mapIdx] at hi
    exact .inl ⟨i, ss[i], List.getElem?_eq_getElem hi, by rw [List.getElem_mapIdx]⟩
  · obtain ⟨i, hi, rfl⟩ := List.getElem_of_mem hx
    rw [List.length_mapIdx] at hi
    exact .inr ⟨i, ss[i], List.getElem?_eq_getElem hi, by rw [List.getElem_mapIdx]⟩
theorem nd_arr (ss : List (Int × Int)) (h : Int) : (ss.mapIdx (depEv h) ++ ss.mapIdx arrEv).Nodup := by
  have nd : ∀ (f : Nat → Int × Int → Ev5), (∀ i x, (f i x).2.2.2.2 = (i : Int)) → (ss.mapIdx f).Nodup := fun f hf => by
    rw [List.nodup_iff_pairwise_ne, List.pairwise_iff_getElem]
    intro i j hi hj hij e
    rw [List.getElem_mapIdx, List.getElem_mapIdx] at e
    have := congrArg (fun e : Ev5 => e.2.2.2.2) e
    simp only [hf] at this
    omega
  rw [List.nodup_append]
  refine ⟨nd _ (fun _ _ => rfl), nd _ (fun _ _ => rfl), fun a ha b hb e => ?_⟩
  obtain ⟨i, hi, rfl⟩ := List.getElem_of_mem ha
  obtain ⟨j, hj, rfl⟩ := List.getElem_of_mem hb
  rw [List.getElem_mapIdx, List.getElem_mapIdx] at e
  have := congrArg (fun e : Ev5 => e.2.1) e
  have : (0 : Int) = 1 := this
  omega
theorem lt_dep (h : Int) (j k : Nat) (o s : Int × Int) : PySem.W.dataLt (enc5 (arrEv k s)) (enc5 (depEv h j o)) = decide (s.1 < (depEv h j o).1) ∧ PySem.W.dataLt (enc5 (depEv h j o)) (enc5 (arrEv k s)) = decide ((depEv h j o).1 ≤ s.1) := by
  rw [lt5, lt5]
  constructor
  · congr 1
    simp only [arrEv, depEv, List.cons_lt_cons_iff, eq_iff_iff]
    omega
  · congr 1
    simp only [arrEv, depEv, List.cons_lt_cons_iff, eq_iff_iff]
    omega
theorem lt_arr (j k : Nat) (o s : Int × Int) : PySem.W.dataLt (enc5 (arrEv k s)) (enc5 (arrEv j o)) = ltP (s.1, (k : Int)) (o.1, (j : Int)) := by
  rw [lt5, ltP_eq]
  congr 1
  simp [arrEv, List.cons_lt_cons_iff]
  first | done | omega
/-- the terms agree -/
theorem term_eq {h : Int} {k j : Nat} {s o : Int × Int} (h1 : 1 ≤ h) (hs : 0 ≤ s.1 ∧ s.1 < h) (ho : 0 ≤ o.1 ∧ o.1 < h) (hl : 0 ≤ o.2) :
    (o.1 + o.2) / h + (if qE s k (depEv h j o) = true then sg (depEv h j o) else 0) + (if qE s k (arrEv j o) = true then sg (arrEv j o) else 0) = pkT h k s j o := by
  have e1 : qE s k (depEv h j o) = decide ((o.1 + o.2) % h ≤ s.1) := rfl
  have e2 : qE s k (arrEv j o) = !ltP (s.1, (k : Int)) (o.1, (j : Int)) := rfl
  have e3 : sg (depEv h j o) = -1 := rfl
  have e4 : sg (arrEv j o) = 1 := rfl
  rw [e1, e2, e3, e4]
  unfold pkT
  have hY := Int.mul_ediv_add_emod (o.1 + o.2) h
  have hr0 := Int.emod_nonneg (o.1 + o.2) (show h ≠ 0 by omega)
  have hr1 := Int.emod_lt_of_pos (o.1 + o.2) (show 0 < h by omega)
  have hq0 : 0 ≤ (o.1 + o.2) / h := Int.ediv_nonneg (by omega) (by omega)
  generalize (o.1 + o.2) / h = qq at hY hq0 ⊢
  generalize (o.1 + o.2) % h = r at hY hr0 hr1 ⊢
  have hX : (s.1 - o.1 - o.2) / h = (if r ≤ s.1 then 0 else -1) - qq := by
    have : s.1 - o.1 - o.2 = (s.1 - r) + h * (-qq) := by
      rw [Int.mul_neg]
      omega
    rw [this, Int.add_mul_ediv_left _ _ (show h ≠ 0 by omega)]
    by_cases hc : r ≤ s.1
    · rw [if_pos hc, Int.ediv_eq_zero_of_lt (a := s.1 - r) (b := h) (by omega) (by omega)]
      omega
    · rw [if_neg hc]
      have : (s.1 - r) / h = -1 := by
        rw [show s.1 - r = (s.1 - r + h) + h * (-1) by omega, Int.add_mul_ediv_left _ _ (show h ≠ 0 by omega), Int.ediv_eq_zero_of_lt (a := s.1 - r + h) (b := h) (by omega) (by omega)]
        rfl
      rw [this]
      omega
  rw [hX]
  cases hlt : ltP (s.1, (k : Int)) (o.1, (j : Int)) <;> by_cases hc : r ≤ s.1
  · simp only [hc, decide_true, if_true, Bool.not_false, Bool.false_eq_true, if_false]
    split <;> omega
  · simp only [hc, decide_false, if_false, Bool.not_false, if_true, Bool.false_eq_true]
    split <;> omega
  · simp only [hc, decide_true, if_true, Bool.not_true, Bool.false_eq_true, if_false]
    split <;> omega
  · simp only [hc, decide_false, if_false, Bool.not_true, Bool.false_eq_true, if_true]
    split <;> omega
/-- the count after an arrival -/
theorem arr_count {h : Int} {ss : List (Int × Int)} {p r : List Ev5} {k : Nat} {s : Int × Int} (h1 : 1 ≤ h) (hsh : ∀ x ∈ ss, 0 ≤ x.1 ∧ x.1 < h ∧ 1 ≤ x.2) (hs : ss[k]? = some s) (he : evs h ss = p ++ arrEv k s :: r) :
    p.foldl stepC (midM h ss) + 1 = pkK h ss k s := by
  have hpw := evs_pw h ss
  have hpm := evs_perm h ss
  have hnd : (evs h ss).Nodup := hpm.nodup_iff.mpr (nd_arr ss h)
  have hs1 := hsh s (List.mem_of_getElem? hs)
  have hq : (evs h ss).filter (qE s k) = p ++ [arrEv k s] := by
    rw [he] at hpw hnd ⊢
    rw [List.pairwise_append] at hpw
    obtain ⟨_, hpr, hpc⟩ := hpw
    rw [List.pairwise_cons] at hpr
    rw [List.filter_append, List.filter_cons]
    have q0 : qE s k (arrEv k s) = true := by
      show (!ltP (s.1, (k : Int)) (s.1, (k : Int))) = true
      rw [ltP_eq]
      simp
    rw [if_pos q0]
    have qp : p.filter (qE s k) = p := by
      rw [List.filter_eq_self]
      intro x hx
      have hle := hpc x hx (arrEv k s) (by simp)
      rw [le5] at hle
      rcases evs_form (show x ∈ evs h ss by rw [he]; exact List.mem_append_left _ hx) with ⟨j, o, ho, rfl⟩ | ⟨j, o, ho, rfl⟩
      · rw [(lt_dep h j k o s).1] at hle
        show decide ((depEv h j o).1 ≤ s.1) = true
        simp only [Bool.not_eq_true', decide_eq_false_iff_not] at hle
        rw [decide_eq_true_iff]
        omega
      · rw [lt_arr] at hle
        exact hle
    have qr : r.filter (qE s k) = [] := by
      rw [List.filter_eq_nil_iff]
      intro x hx
      have hle := hpr.1 x hx
      rw [le5] at hle
      rcases evs_form (show x ∈ evs h ss by rw [he]; exact List.mem_append_right _ (List.mem_cons_of_mem _ hx)) with ⟨j, o, ho, rfl⟩ | ⟨j, o, ho, rfl⟩
      · rw [(lt_dep h j k o s).2] at hle
        show ¬ decide ((depEv h j o).1 ≤ s.1) = true
        simp only [Bool.not_eq_true', decide_eq_false_iff_not] at hle
        rw [decide_eq_true_iff]
        exact hle
      · rw [lt_arr] at hle
        show ¬ (!ltP (s.1, (k : Int)) (o.1, (j : Int))) = true
        rw [ltP_eq] at hle ⊢
        have hjk : j ≠ k := fun z => by
          subst z
          rw [hs] at ho
          cases ho
          rw [List.nodup_append] at hnd
          exact (List.nodup_cons.mp hnd.2.1).1 hx
        simp only [Bool.not_eq_true', decide_eq_false_iff_not, decide_eq_true_iff, Bool.not_eq_true, decide_eq_true_iff] at hle ⊢
        try simp only [Bool.not_eq_false', decide_eq_true_iff]
        omega
    rw [qp, qr]
  have hsum : (p.map sg).sum + 1 = (((evs h ss).filter (qE s k)).map sg).sum := by
    rw [hq, List.map_append, List.sum_append]
    show _ = _ + (sg (arrEv k s) + 0)
    rfl
  have hpsum : (((evs h ss).filter (qE s k)).map sg).sum = (((ss.mapIdx (depEv h) ++ ss.mapIdx arrEv).filter (qE s k)).map sg).sum := perm_sum ((hpm.filter _).map _)
  rw [foldl_step, Int.add_assoc, hsum, hpsum, List.filter_append, List.map_append, List.sum_append]
  have z : ∀ {β : Type} (f : Nat → Int × Int → β), (ss.mapIdx f) = ss.mapIdx fun i x => f (0 + i) x := fun f => by
    congr 1
    funext i x
    rw [Nat.zero_add]
  rw [z (depEv h), z arrEv, sum_filter_mapIdx (qE s k) (depEv h) ss 0, sum_filter_mapIdx (qE s k) arrEv ss 0]
  unfold midM pkK
  rw [map_mapIdx_sum, ← Int.add_assoc]
  rw [show (ss.mapIdx fun _ x => (x.1 + x.2) / h) = ss.mapIdx fun i x => (fun (_ : Nat) (x : Int × Int) => (x.1 + x.2) / h) (0 + i) x from rfl]
  rw [← sum_mapIdx_add (fun (_ : Nat) (x : Int × Int) => (x.1 + x.2) / h) (fun i x => if qE s k (depEv h i x) = true then sg (depEv h i x) else 0) ss 0]
  rw [← sum_mapIdx_add (fun i x => (x.1 + x.2) / h + (if qE s k (depEv h i x) = true then sg (depEv h i x) else 0)) (fun i x => if qE s k (arrEv i x) = true then sg (arrEv i x) else 0) ss 0]
  congr 1
  apply List.ext_getElem?
  intro i
  rw [List.getElem?_mapIdx, List.getElem?_mapIdx]
  cases e : ss[i]? with
  | none => rfl
  | some o =>
    have := hsh o (List.mem_of_getElem? e)
    show some _ = some _
    congr 1
    rw [Nat.zero_add]
    exact term_eq h1 ⟨hs1.1, hs1.2.1⟩ ⟨this.1, this.2.1⟩ (by omega)
end Ba

set_option maxHeartbeats 400000
namespace Ba
open PySem PySem.Spec PyProof.Rows L2
theorem runC_le (M : Int) : ∀ (l : List Ev5) (c : Int), (∀ p e r, l = p ++ e :: r → e.2.1 = 1 → p.foldl stepC c + 1 ≤ M) → ∀ x ∈ runC c l, x ≤ max c M
  | [], c, _, x, hx => by simp [runC] at hx
  | e :: l, c, h, x, hx => by
    have ih := runC_le M l (stepC c e) (fun p e2 r hl h1 => h (e :: p) e2 r (by rw [hl]; rfl) h1)
    have h0 : stepC c e ≤ max c M := by
      unfold stepC
      by_cases h1 : e.2.1 = 1
      · have := h [] e l rfl h1
        rw [if_pos h1]
        have h2 : c + 1 ≤ M := this
        omega
      · rw [if_neg h1]
        omega
    have hx : x ∈ stepC c e :: runC (stepC c e) l := hx
    rcases List.mem_cons.mp hx with rfl | hx
    · exact h0
    · have := ih x hx
      omega
theorem dep_fold : ∀ (l : List Ev5) (c : Int), (∀ e ∈ l, e.2.1 ≠ 1) → l.foldl stepC c ≤ c
  | [], c, _ => Int.le_refl _
  | e :: l, c, h => by
    have h1 := h e (by simp)
    have ih := dep_fold l (stepC c e) (fun x hx => h x (List.mem_cons_of_mem _ hx))
    have : stepC c e = c - 1 := by unfold stepC; rw [if_neg h1]; omega
    rw [List.foldl_cons]
    omega
theorem fin_le (M : Int) : ∀ (l : List Ev5) (c : Int), (∀ p e r, l = p ++ e :: r → e.2.1 = 1 → p.foldl stepC c + 1 ≤ M) → (∃ e ∈ l, e.2.1 = 1) → l.foldl stepC c ≤ M
  | [], _, _, ⟨e, he, _⟩ => by simp at he
  | e :: l, c, h, hx => by
    rw [List.foldl_cons]
    by_cases hr : ∃ e ∈ l, e.2.1 = 1
    · exact fin_le M l (stepC c e) (fun p e2 r hl h1 => h (e :: p) e2 r (by rw [hl]; rfl) h1) hr
    · have h1 : e.2.1 = 1 := by
        obtain ⟨e2, he2, h2⟩ := hx
        rcases List.mem_cons.mp he2 with rfl | he2
        · exact h2
        · exact absurd ⟨e2, he2, h2⟩ hr
      have h2 : c + 1 ≤ M := h [] e l rfl h1
      have h3 := dep_fold l (stepC c e) (fun x hx z => hr ⟨x, hx, z⟩)
      have : stepC c e = c + 1 := by unfold stepC; rw [if_pos h1]
      omega
theorem sum_const (f : Nat → Int × Int → Ev5) (v : Int) (hf : ∀ i x, sg (f i x) = v) : ∀ (l : List (Int × Int)) (n : Nat), ((l.mapIdx fun i x => f (n + i) x).map sg).sum = l.length * v
  | [], n => by simp
  | a :: l, n => by
    have e : (l.mapIdx fun i x => f (n + (i + 1)) x) = l.mapIdx fun i x => f (n + 1 + i) x := by
      congr 1
      funext i x
      rw [Nat.add_comm i 1, ← Nat.add_assoc]
    rw [List.mapIdx_cons, List.map_cons, List.sum_cons, e, sum_const f v hf l (n + 1), hf, List.length_cons]
    push_cast
    rw [Int.add_mul]
    omega
theorem sg_zero (h : Int) (ss : List (Int × Int)) : ((evs h ss).map sg).sum = 0 := by
  rw [perm_sum ((evs_perm h ss).map _), List.map_append, List.sum_append]
  have z : ∀ {β : Type} (f : Nat → Int × Int → β), (ss.mapIdx f) = ss.mapIdx fun i x => f (0 + i) x := fun f => by
    congr 1
    funext i x
    rw [Nat.zero_add]
  rw [z (depEv h), z arrEv, sum_const (depEv h) (-1) (fun _ _ => rfl), sum_const arrEv 1 (fun _ _ => rfl)]
  omega
theorem maxI_le {M : Int} : ∀ {l : List Int} {d : Int}, d ≤ M → (∀ x ∈ l, x ≤ M) → maxI l d ≤ M
  | [], d, hd, _ => hd
  | n :: ns, d, _, h => by
    show ns.foldl max n ≤ M
    have h0 := h n (by simp)
    have hns : ∀ x ∈ ns, x ≤ M := fun x hx => h x (List.mem_cons_of_mem _ hx)
    clear h
    induction ns generalizing n with
    | nil => exact h0
    | cons a l ih =>
      rw [List.foldl_cons]
      have := hns a (by simp)
      exact ih (max n a) (by omega) (fun x hx => hns x (List.mem_cons_of_mem _ hx))
theorem peakM_le {h : Int} {ss : List (Int × Int)} (h1 : 1 ≤ h) (hsh : ∀ x ∈ ss, 0 ≤ x.1 ∧ x.1 < h ∧ 1 ≤ x.2) : peakM h ss ≤ lawPk h ss := by
  have harr : ∀ p e r, evs h ss = p ++ e :: r → e.2.1 = 1 → p.foldl stepC (midM h ss) + 1 ≤ lawPk h ss := fun p e r he hk => by
    rcases evs_form (show e ∈ evs h ss by rw [he]; simp) with ⟨j, o, ho, rfl⟩ | ⟨j, o, ho, rfl⟩
    · have : (0 : Int) = 1 := hk
      omega
    · rw [arr_count h1 hsh ho he]
      exact pkK_le_lawPk ho
  refine maxI_le (lawPk_nonneg h ss) (fun x hx => ?_)
  have hle := runC_le _ _ _ harr x hx
  cases hss : ss with
  | nil =>
    rw [hss] at hx
    have : evs h [] = [] := List.eq_nil_of_length_eq_zero (evs_length h [])
    unfold countsM at hx
    rw [this] at hx
    simp [runC] at hx
  | cons a l =>
    have hin : ∃ e ∈ evs h ss, e.2.1 = 1 := by
      refine ⟨arrEv 0 a, (evs_perm h ss).mem_iff.mpr (List.mem_append_right _ ?_), rfl⟩
      rw [List.mem_iff_getElem?]
      exact ⟨0, by rw [List.getElem?_mapIdx, hss]; rfl⟩
    have hfin := fin_le _ _ _ harr hin
    rw [foldl_step, sg_zero] at hfin
    rw [← hss]
    omega
theorem tab_ok {h most : Int} {ss : List (Int × Int)} (h1 : 1 ≤ h) (h2 : h ≤ 1000) (hm : most ≤ 24) (d : DrawT h most ss) : isTableD (tbD h ss) = true := by
  have tv : TabV h ss := ⟨h1, h2, by have := d.n; omega, fun s hs => by have := d.sh s hs; omega⟩
  unfold isTableD
  rw [isShapeD_tb tv, tabOf_tb, Bool.true_and, decide_eq_true_iff]
  have a := peakM_le h1 (fun x hx => by have := d.sh x hx; omega) (h := h) (ss := ss)
  have b := lawPk_le h1 hm d
  show peakM h ss ≤ 60
  omega
end Ba

set_option maxHeartbeats 400000
namespace Ba
open PySem PySem.Spec PyProof.Rows L2
mutual
def wideD : PyData → Nat
  | .list ds => max ds.length (wideAll ds)
  | .tuple ds => max ds.length (wideAll ds)
  | _ => 0
def wideAll : List PyData → Nat
  | [] => 0
  | d :: ds => max (wideD d) (wideAll ds)
end
theorem wide_mem : ∀ {ds : List PyData} {d : PyData}, d ∈ ds → wideD d ≤ wideAll ds
  | [], _, h => by simp at h
  | e :: ds, d, h => by
    show wideD d ≤ max (wideD e) (wideAll ds)
    rcases List.mem_cons.mp h with rfl | h
    · omega
    · have := wide_mem h
      omega
theorem depth_mem : ∀ {ds : List PyData} {d : PyData}, d ∈ ds → d.depth ≤ PyData.depthAll ds
  | [], _, h => by simp at h
  | e :: ds, d, h => by
    show d.depth ≤ max e.depth (PyData.depthAll ds)
    rcases List.mem_cons.mp h with rfl | h
    · omega
    · have := depth_mem h
      omega
theorem plain_mem : ∀ {ds : List PyData} {d : PyData}, PyData.plainAll ds = true → d ∈ ds → d.plain = true
  | [], _, _, h => by simp at h
  | e :: ds, d, hp, h => by
    have hp : (e.plain && PyData.plainAll ds) = true := hp
    rw [Bool.and_eq_true] at hp
    rcases List.mem_cons.mp h with rfl | h
    · exact hp.1
    · exact plain_mem hp.2 h
mutual
theorem eqv_refl : ∀ d : PyData, d.plain = true → PyData.eqv d d = true
  | .none, _ => rfl
  | .bool b, _ => by cases b <;> rfl
  | .int i, _ => by show (i == i) = true; simp
  | .str s, _ => by show (s == s) = true; simp
  | .list ds, h => eqvAll_refl ds h
  | .tuple ds, h => eqvAll_refl ds h
  | .dict _, h => by cases h
theorem eqvAll_refl : ∀ ds : List PyData, PyData.plainAll ds = true → PyData.eqvAll ds ds = true
  | [], _ => rfl
  | d :: ds, h => by
    have h : (d.plain && PyData.plainAll ds) = true := h
    rw [Bool.and_eq_true] at h
    show (PyData.eqv d d && PyData.eqvAll ds ds) = true
    rw [eqv_refl d h.1, eqvAll_refl ds h.2]
    rfl
end
section
variable {P : Program} {w : World} {K : PySem.W.Frag} {mg : Str → Option Value} {base : Heap} {f : Addr} {fd : FuncData}
theorem kitLT : kitB "list" "tuple" = some false := by decide +kernel
/-! ### alike through and through -/
abbrev spSame (K : PySem.W.Frag) (k : Nat) : Sp := Pr fun vs H Q _ => ∃ (x y : V) (d : PyData), vs = [x, y] ∧ Dp K H x d ∧ Dp K H y d ∧ d.plain = true ∧ d.depth < k ∧ k ≤ 20 ∧ wideD d ≤ 1000000 ∧ ∀ H', Kp [] H H' → Q (.bl true) H'
theorem kit_list : kitB "list" "list" = some true := by decide +kernel
theorem kitTL : kitB "tuple" "list" = some false := by decide +kernel
theorem kits (t : String) (b1 b2 : Bool) (h1 : kitB t "list" = some b1) (h2 : kitB t "tuple" = some b2) : PySem.W.kitAny K (.type t) [.type "list", .type "tuple"] = some (b1 || b2) := by
  refine kitAny_cons (kit_ty h1) (fun e => ?_) (fun e => by rw [e]; rfl)
  subst e
  refine kitAny_cons (kit_ty h2) (fun e => ?_) (fun e => by rw [e]; rfl)
  subst e
  exact kitAny_nil
theorem law_same0 (F : FunS K "_law_same" "_law_same" s__law_same [] [] f fd) (hm : mg "_law_same" = some (.ref f)) : DefOk P w K mg base "_law_same" 0 p__law_same [] (spSame K 0) :=
  ⟨f, fd, [], ⟨fun vs H Q E h => by obtain ⟨x, y, d, rfl, _⟩ := h; rfl, fun _ _ _ _ _ _ _ _ _ _ _ _ _ h => by obtain ⟨x, y, d, _, _, _, _, h, _⟩ := h; omega⟩, hm, F.kp, F.bindsN (fun _ _ _ _ _ _ us hl => match us, hl with | [_, _], _ => rfl), .nil⟩
end
end Ba

set_option maxHeartbeats 400000
namespace Ba
open PySem PySem.Spec PyProof.Rows L2
section
variable {P : Program} {w : World} {K : PySem.W.Frag} {mg : Str → Option Value} {base : Heap} {f : Addr} {fd : FuncData}
theorem dpAll_get {H : Hp} : ∀ {vs : List V} {ds : List PyData} {i : Nat} {d : PyData}, DpAll K H vs ds → ds[i]? = some d → ∃ v, vs[i]? = some v ∧ Dp K H v d
  | _, _, _, _, .nil, e => by simp at e
  | _, _, 0, _, .cons h _, e => by simp at e; subst e; exact ⟨_, rfl, h⟩
  | _, _, i + 1, d, .cons _ t, e => by
    obtain ⟨v, h1, h2⟩ := dpAll_get (i := i) t (by simpa using e)
    exact ⟨v, by simpa using h1, h2⟩
/-- a list or a tuple of data -/
theorem dp_seq {H : Hp} {x : V} {ds : List PyData} (b : Bool) (h : Dp K H x (if b = true then .list ds else .tuple ds)) : ∃ a xs, x = .ref a ∧ (SqL K H a xs ∨ SqT K H a xs) ∧ DpAll K H xs ds := by
  cases b with
  | true =>
    cases h with
    | lst h1 h2 => exact ⟨_, _, rfl, .inl h1, h2⟩
  | false =>
    cases h with
    | tup h1 h2 => exact ⟨_, _, rfl, .inr h1, h2⟩
theorem seq_ext {H H' : Hp} {a : Addr} {xs : List V} (k : Kp [] H H') (h : SqL K H a xs ∨ SqT K H a xs) : SqL K H' a xs ∨ SqT K H' a xs := by
  rcases h with h | h
  · exact .inl (sqL_kp k (by simp) h)
  · exact .inr (sqT_kp k h)
theorem ok_law_same {k : Nat} (B : Bi mg) (D__law_same : DefOk P w K mg base "_law_same" k p__law_same [] (spSame K k)) (F : FunS K "_law_same" "_law_same" s__law_same [] [] f fd) (hm : mg "_law_same" = some (.ref f)) :
    DefOk P w K mg base "_law_same" (k + 1) p__law_same [] (spSame K (k + 1)) := by
  have S := sc__law_same
  refine defOk F hm S (fun _ _ _ _ _ _ us hl => match us, hl with | [_, _], _ => rfl) (fun vs H Q E h => ?_) (fun cdv A outer s H vs Q E hr h => ?_)
  · obtain ⟨x, y, d, rfl, _⟩ := h
    rfl
  · obtain ⟨x, y, d, rfl, hx, hy, hp, hdep, hk, hwd, q⟩ := h
    refine ⟨_, (pss_cons (ps_if (pt_val (pe_callB call_isiT (by rfl) B.isinstance (by decide +kernel) (pa_cons (pv 1) (pa_cons (pe_tup (pa_cons (pe_bltn (v := .ty "list") (by rfl) B.list (by decide +kernel) rfl) (pa_cons (pe_bltn (v := .ty "tuple") (by rfl) B.tuple (by decide +kernel) rfl) pa_nil))) pa_nil)))) (pss_cons (ps_if (PW.pt (pw_or (pt_cmpR op_ne (pe_callB call_isA (by rfl) B.isinstance (by decide +kernel) (pa_cons (pv 0) (pa_cons (pe_bltn (v := .ty "list") (by rfl) B.list (by decide +kernel) rfl) pa_nil))) (pe_callB call_isA (by rfl) B.isinstance (by decide +kernel) (pa_cons (pv 1) (pa_cons (pe_bltn (v := .ty "list") (by rfl) B.list (by decide +kernel) rfl) pa_nil))) (nomark _)) (pw_or1 (pt_cmpR op_ne (pe_callB call_isA (by rfl) B.isinstance (by decide +kernel) (pa_cons (pv 0) (pa_cons (pe_bltn (v := .ty "tuple") (by rfl) B.tuple (by decide +kernel) rfl) pa_nil))) (pe_callB call_isA (by rfl) B.isinstance (by decide +kernel) (pa_cons (pv 1) (pa_cons (pe_bltn (v := .ty "tuple") (by rfl) B.tuple (by decide +kernel) rfl) pa_nil))) (nomark _))))) (pss_one (ps_ret pe_bl)) pss_nil)
      (pss_one (ps_ret (pe_and (pe_cmpR op_eq (pe_callB call_len_seq (by rfl) B.len (by decide +kernel) (pa_cons (pv 0) pa_nil)) (pe_callB call_len_seq (by rfl) B.len (by decide +kernel) (pa_cons (pv 1) pa_nil)) (nomark _)) (pe_one (pe_callB (cr_all rfl) (by rfl) B.all (by decide +kernel) (pa_cons (pe_lc (own := [("_law_k", 2)]) (g := (gName 2)) (tt := tYes) (by rfl) S.nd (pi_range1 (by rfl) B.range (pa_cons (pe_callB call_len_seq (by rfl) B.len (by decide +kernel) (pa_cons (pv 1) pa_nil)) pa_nil)) (blkOk_by (own := [("_law_k", 2)]) (N := n__law_same) (sc := defScope s__law_same) (by decide +kernel)) (fun _ _ _ _ _ => (pg_name (i := 2) S.nd rfl (Or.inl rfl))) (fun _ _ _ _ _ => pts_nil) (fun _ _ _ _ _ => (pe_fn D__law_same (hr.mono (Nat.le_refl _)) passLB rfl (pa_cons (pe_ix (show IxR _ (rIxA K) from ix_any) (pv 0) (pv 2) (fun _ _ => rfl)) (pa_cons (pe_ix (show IxR _ (rIxA K) from ix_any) (pv 1) (pv 2) (fun _ _ => rfl)) pa_nil))))) pa_nil))))))) pss_nil)
      (pss_one (ps_ret (pe_and (pe_cmpR op_eq (pe_callB call_isA (by rfl) B.isinstance (by decide +kernel) (pa_cons (pv 0) (pa_cons (pe_bltn (v := .ty "bool") (by rfl) B.bool (by decide +kernel) rfl) pa_nil))) (pe_callB call_isA (by rfl) B.isinstance (by decide +kernel) (pa_cons (pv 1) (pa_cons (pe_bltn (v := .ty "bool") (by rfl) B.bool (by decide +kernel) rfl) pa_nil))) (nomark _)) (pe_one (pe_cmpR (op_eqP hr.units) (pv 0) (pv 1) (nomark _))))))), ?_⟩
    by_cases hseq : ∃ b ds, d = if b = true then PyData.list ds else .tuple ds
    · obtain ⟨b, ds, rfl⟩ := hseq
      have hb1 : kitB (tyN (if b = true then PyData.list ds else .tuple ds)) "list" = some b := by
        cases b
        · exact kitTL
        · exact kit_list
      have hb2 : kitB (tyN (if b = true then PyData.list ds else .tuple ds)) "tuple" = some (!b) := by
        cases b
        · exact isTup_yes
        · exact kitLT
      have hpa : PyData.plainAll ds = true := by
        cases b <;> exact hp
      have hde : PyData.depthAll ds < k := by
        have : (if b = true then PyData.list ds else .tuple ds).depth = PyData.depthAll ds + 1 := by cases b <;> rfl
        omega
      have hwl : ds.length ≤ 1000000 ∧ wideAll ds ≤ 1000000 := by
        have : wideD (if b = true then PyData.list ds else .tuple ds) = max ds.length (wideAll ds) := by cases b <;> simp [wideD]
        omega
      refine ⟨_, rfl, (show (2:Nat) ≤ sizeLine from by decide), fun p1 hp1 => ?_⟩
      have k1 : Kp [] H (upd H p1 (.tup [.ty "list", .ty "tuple"])) := Kp.new hp1
      have e1 : (upd H p1 (.tup [.ty "list", .ty "tuple"])) p1 = some (.tup [.ty "list", .ty "tuple"]) := upd_same
      generalize upd H p1 (.tup [.ty "list", .ty "tuple"]) = H1 at k1 e1 ⊢
      have hx1 := Dp.ext k1 _ _ hx
      have hy1 := Dp.ext k1 _ _ hy
      refine ⟨y, p1, _, _, _, _, rfl, e1, .cons (.ty _) (.cons (.ty _) .nil), dp_ty hy1, kits _ _ _ hb1 hb2, _, rfl, ?_⟩
      refine iteT' (by cases b <;> rfl) ?_
      refine ⟨_, rfl, x, _, "list", b, rfl, dp_ty hx1, hb1, _, rfl, y, _, "list", b, rfl, dp_ty hy1, hb1, rfl, _, rfl, ?_⟩
      refine iteF' (by rw [decide_eq_true rfl]; rfl) ?_
      refine ⟨_, rfl, x, _, "tuple", !b, rfl, dp_ty hx1, hb2, _, rfl, y, _, "tuple", !b, rfl, dp_ty hy1, hb2, rfl, _, rfl, ?_⟩
      refine iteF' (by rw [decide_eq_true rfl]; rfl) ?_
      obtain ⟨xa, xs, rfl, sx, ax⟩ := dp_seq b hx1
      obtain ⟨ya, ys, rfl, sy, ay⟩ := dp_seq b hy1
      have hxl := dpAll_len ax
      have hyl := dpAll_len ay
      refine ⟨_, rfl, xa, xs, rfl, sx, _, rfl, ya, ys, rfl, sy, rfl, ?_⟩
      rw [hxl, hyl]
      refine ⟨_, rfl, ?_⟩
      refine iteT' (decide_eq_true rfl) ?_
      refine ⟨_, rfl, ya, ys, rfl, sy, (ys.length : Nat), rfl, by omega, by omega, fun L hL => lc_data (walk_range (lo := 0) (n := ((ys.length : Nat) : Int).toNat)) (fun i => if i < ds.length then [.bool true] else []) hL (fun _ _ => trivial) ?_ ?_⟩
      · rintro i z H4 H5 hi L4 ⟨rfl, rfl⟩
        rw [Int.toNat_natCast, hyl] at hi
        obtain ⟨d0, ed⟩ : ∃ d0, ds[i]? = some d0 := ⟨_, List.getElem?_eq_getElem hi⟩
        obtain ⟨x0, ex, hx0⟩ := dpAll_get ax ed
        obtain ⟨y0, ey, hy0⟩ := dpAll_get ay ed
        have hm0 := List.mem_of_getElem? ed
        refine ⟨wipe1 (by decide), ?_⟩
        refine ⟨_, rfl, _, rfl, xa, xs, _, _, rfl, rfl, seq_ext L4.kp sx, (show atI xs (0 + (i : Int)) = some x0 by rw [Int.zero_add]; exact atI_nat ex), _, rfl, _, rfl, ya, ys, _, _, rfl, rfl, seq_ext L4.kp sy, (show atI ys (0 + (i : Int)) = some y0 by rw [Int.zero_add]; exact atI_nat ey), ?_⟩
        have hdm := depth_mem hm0
        have hwm := wide_mem hm0
        refine ⟨x0, y0, d0, rfl, Dp.ext L4.kp _ _ hx0, Dp.ext L4.kp _ _ hy0, plain_mem hpa hm0, by omega, by omega, by omega, fun H6 k6 => ?_⟩
        exact L4.fin (d := .bool true) (by rw [Int.toNat_natCast]; omega) hL (by rw [Int.toNat_natCast, hyl]; exact hi) k6 (if_pos hi) (.bl _)
      · intro H4 acc k4 hacc _ hT
        rw [Int.toNat_natCast, hyl] at hT
        rw [flatMap_one ds _ (fun _ => PyData.bool true) (fun i x e => if_pos (List.getElem?_eq_some_iff.mp e).1)] at hT
        rw [show (ds.map fun _ => PyData.bool true) = (ds.map fun _ => true).map .bool by rw [List.map_map]; rfl] at hT
        rw [tpAll_bls hT] at hacc
        refine ⟨L, ds.map fun _ => true, rfl, SqL.of hacc, ?_⟩
        have q' := q H4 (k1.trans k4)
        have : (ds.map fun _ => true).all id = true := by
          rw [List.all_map, List.all_eq_true]
          intro _ _
          rfl
        rw [this]
        exact q'
    · have hnl : ∀ ds, d ≠ .list ds := fun ds e => hseq ⟨true, ds, e⟩
      have hnt : ∀ ds, d ≠ .tuple ds := fun ds e => hseq ⟨false, ds, e⟩
      obtain ⟨b, hb0, hb1, hb2⟩ : ∃ b, kitB (tyN d) "bool" = some b ∧ kitB (tyN d) "list" = some false ∧ kitB (tyN d) "tuple" = some false := by
        cases d with
        | none => exact ⟨false, by decide +kernel, by decide +kernel, by decide +kernel⟩
        | bool _ => exact ⟨true, (show kitB "bool" "bool" = some true by decide +kernel), (show kitB "bool" "list" = some false by decide +kernel), (show kitB "bool" "tuple" = some false by decide +kernel)⟩
        | int _ => exact ⟨false, (show kitB "int" "bool" = some false by decide +kernel), (show kitB "int" "list" = some false by decide +kernel), (show kitB "int" "tuple" = some false by decide +kernel)⟩
        | str _ => exact ⟨false, (show kitB "str" "bool" = some false by decide +kernel), (show kitB "str" "list" = some false by decide +kernel), (show kitB "str" "tuple" = some false by decide +kernel)⟩
        | list ds => exact absurd rfl (hnl ds)
        | tuple ds => exact absurd rfl (hnt ds)
        | dict _ => cases hx
      refine ⟨_, rfl, (show (2:Nat) ≤ sizeLine from by decide), fun p1 hp1 => ?_⟩
      have k1 : Kp [] H (upd H p1 (.tup [.ty "list", .ty "tuple"])) := Kp.new hp1
      have e1 : (upd H p1 (.tup [.ty "list", .ty "tuple"])) p1 = some (.tup [.ty "list", .ty "tuple"]) := upd_same
      generalize upd H p1 (.tup [.ty "list", .ty "tuple"]) = H1 at k1 e1 ⊢
      have hx1 := Dp.ext k1 _ _ hx
      have hy1 := Dp.ext k1 _ _ hy
      refine ⟨y, p1, _, _, _, _, rfl, e1, .cons (.ty _) (.cons (.ty _) .nil), dp_ty hy1, kits _ _ _ hb1 hb2, _, rfl, ?_⟩
      refine iteF' rfl ?_
      refine ⟨_, rfl, x, _, "bool", b, rfl, dp_ty hx1, hb0, _, rfl, y, _, "bool", b, rfl, dp_ty hy1, hb0, rfl, ?_⟩
      refine ⟨_, rfl, ?_⟩
      refine iteT' (decide_eq_true rfl) ?_
      refine ⟨_, rfl, _, rfl, d, d, hx1, hy1, hp, hp, by omega, ?_⟩
      rw [eqv_refl d hp]
      exact q H1 k1
end
end Ba

set_option maxHeartbeats 400000
namespace Ba
open PySem PySem.Spec PyProof.Rows L2
def kindN : List Str := ["NoTable", "NoHour", "NoPolicy", "NoStart", "NoDays", "NoShip", "NoBerth", "NoMap", "NoPlan", "NoNumber", "NoExchange", "NoChanges", "NoRoom", "TooLong", "Nothing", "NoText", "NoRow"]
def kindW : List Str := ["table", "hour", "policy", "start", "days", "ship", "berth", "map", "plan", "number", "exchange", "changes", "room", "long", "nothing", "text", "row"]
/-- the exception classes of the package, by name -/
structure KindG (mg : Str → Option Value) (cl : Str → Addr) : Prop where
  g : ∀ x ∈ kindN, mg x = some (.ref (cl x))
  v : mg "ValueError" = none
/-- D is the i-th of them, and no other -/
structure KindC (K : PySem.W.Frag) (cl : Str → Addr) (D : Addr) (i : Nat) : Prop where
  x : ExcC K D
  k : ∀ (j : Nat) (x : Str), kindN[j]? = some x → PySem.W.kitOne K (.ref D) (.ref (cl x)) = some (decide (j = i))
  v : PySem.W.kitOne K (.ref D) (.type "ValueError") = some true
def kdT (w : Str) (b : Bool) : PyData := .tuple [.str w, .bool b]
/-- the law's list -/
def kdL (i n : Nat) : List PyData := ((kindW.take n).mapIdx fun j w => kdT w (decide (j = i)))
theorem kdL_at (i n j : Nat) (hj : j < n) : (kdL i n)[j]? = (kindW[j]?).map fun w => kdT w (decide (j = i)) := by
  unfold kdL
  rw [List.getElem?_mapIdx, List.getElem?_take, if_pos hj]
theorem kd1 {i n : Nat} {w1 : Str} (h1 : kindW[n]? = some w1) : kdL i n ++ [kdT w1 (decide (n = i))] = kdL i (n + 1) := by
  have hn : n < kindW.length := (List.getElem?_eq_some_iff.mp h1).1
  unfold kdL
  rw [List.take_add_one, h1, List.mapIdx_append, List.length_take, Nat.min_eq_left (by omega)]
  show _ = _ ++ [kdT w1 (decide (0 + n = i))]
  rw [Nat.zero_add]
theorem kd2 {i n : Nat} {w1 w2 : Str} (h1 : kindW[n]? = some w1) (h2 : kindW[n + 1]? = some w2) : kdL i n ++ [kdT w1 (decide (n = i)), kdT w2 (decide (n + 1 = i))] = kdL i (n + 2) := by
  rw [← kd1 h2, ← kd1 h1, List.append_assoc]
  rfl
theorem kd_flat {x : PyData} {i : Nat} : ∀ n : Nat, (List.range n).flatMap (fun j => if j = i then [x] else []) = if i < n then [x] else []
  | 0 => by simp
  | n + 1 => by
    rw [List.range_succ, List.flatMap_append, kd_flat n]
    by_cases h : i < n
    · rw [if_pos h, if_pos (by omega)]
      simp [show ¬ n = i by omega]
    · rw [if_neg h]
      by_cases h2 : n = i
      · simp [h2]
      · rw [if_neg (by omega)]
        simp [h2]
theorem refR {c : Addr} : ∀ u, RelV (V.ref c) u → u = Value.ref c := fun u r => r
theorem cat2 {H : Hp} {L t0 t1 L1 : Addr} {xs : List V} {ds : List PyData} {w1 w2 : Str} {b1 b2 : Bool} (e : H L = some (.lst xs)) (t : TpAll H xs ds) (h0 : H t0 = none) (h1 : (upd H t0 (.tup [.str w1, .bl b1])) t1 = none) (h2 : (upd (upd H t0 (.tup [.str w1, .bl b1])) t1 (.tup [.str w2, .bl b2])) L1 = none) {G : Hp} (hG : G = upd (upd (upd H t0 (.tup [.str w1, .bl b1])) t1 (.tup [.str w2, .bl b2])) L1 (.lst [.ref t0, .ref t1])) :
    Kp [] H G ∧ G L = some (.lst xs) ∧ G L1 = some (.lst [.ref t0, .ref t1]) ∧ TpAll G (xs ++ [.ref t0, .ref t1]) (ds ++ [kdT w1 b1, kdT w2 b2]) := by
  have k0 : Kp [] H (upd H t0 (.tup [.str w1, .bl b1])) := Kp.new h0
  have k1 := k0.trans (Kp.new h1 (o := .tup [.str w2, .bl b2]))
  have k2 := k1.trans (Kp.new h2 (o := .lst [.ref t0, .ref t1]))
  have a0 : (upd H t0 (.tup [.str w1, .bl b1])) t0 = some (.tup [.str w1, .bl b1]) := upd_same
  have a1 := (Kp.new (S := []) h1 (o := .tup [.str w2, .bl b2])).tup _ _ a0
  have a2 := (Kp.new (S := []) h2 (o := .lst [.ref t0, .ref t1])).tup _ _ a1
  have c1 : (upd (upd H t0 (.tup [.str w1, .bl b1])) t1 (.tup [.str w2, .bl b2])) t1 = some (.tup [.str w2, .bl b2]) := upd_same
  have c2 := (Kp.new (S := []) h2 (o := .lst [.ref t0, .ref t1])).tup _ _ c1
  have c3 : (upd (upd (upd H t0 (.tup [.str w1, .bl b1])) t1 (.tup [.str w2, .bl b2])) L1 (.lst [.ref t0, .ref t1])) L1 = some (.lst [.ref t0, .ref t1]) := upd_same
  rw [← hG] at k2 a2 c2 c3
  exact ⟨k2, k2.keep _ _ e (by simp), c3, (t.kp k2).append (.cons (.tup a2 (.cons (.str _) (.cons (.bl _) .nil))) (.cons (.tup c2 (.cons (.str _) (.cons (.bl _) .nil))) .nil))⟩
theorem cat1 {H : Hp} {L t0 L1 : Addr} {xs : List V} {ds : List PyData} {w1 : Str} {b1 : Bool} (e : H L = some (.lst xs)) (t : TpAll H xs ds) (h0 : H t0 = none) (h2 : (upd H t0 (.tup [.str w1, .bl b1])) L1 = none) {G : Hp} (hG : G = upd (upd H t0 (.tup [.str w1, .bl b1])) L1 (.lst [.ref t0])) :
    Kp [] H G ∧ G L = some (.lst xs) ∧ G L1 = some (.lst [.ref t0]) ∧ TpAll G (xs ++ [.ref t0]) (ds ++ [kdT w1 b1]) := by
  have k0 : Kp [] H (upd H t0 (.tup [.str w1, .bl b1])) := Kp.new h0
  have k2 := k0.trans (Kp.new h2 (o := .lst [.ref t0]))
  have a0 : (upd H t0 (.tup [.str w1, .bl b1])) t0 = some (.tup [.str w1, .bl b1]) := upd_same
  have a2 := (Kp.new (S := []) h2 (o := .lst [.ref t0])).tup _ _ a0
  have c3 : (upd (upd H t0 (.tup [.str w1, .bl b1])) L1 (.lst [.ref t0])) L1 = some (.lst [.ref t0]) := upd_same
  rw [← hG] at k2 a2 c3
  exact ⟨k2, k2.keep _ _ e (by simp), c3, (t.kp k2).append (.cons (.tup a2 (.cons (.str _) (.cons (.bl _) .nil))) .nil)⟩
section
variable {P : Program} {w : World} {K : PySem.W.Frag} {mg : Str → Option Value} {base : Heap} {f : Addr} {fd : FuncData}
abbrev spKind (K : PySem.W.Frag) (cl : Str → Addr) : Addr → Value → Option Addr → Sp := fun a cls d => Pr fun vs H Q _ => ∃ (D : Addr) (i : Nat) (wd : Str), vs = [.ref a] ∧ cls = .ref D ∧ d = none ∧ KindC K cl D i ∧ kindW[i]? = some wd ∧ ∀ H', Kp [] H H' → Q (.str wd) H'
set_option maxHeartbeats 4000000 in
theorem ok_law_kind {cl : Str → Addr} (B : Bi mg) (KG : KindG mg cl) (F : FunS K "_law_kind" "_law_kind" s__law_kind [] [] f fd) : FnP P w K mg base (L2N.CX P w) 1 f fd p__law_kind (spKind K cl) := by
  have S := sc__law_kind
  refine okP F S (fun a cls d vs H Q E h => ?_) (fun cdv A outer s H vs Q E p cls d hot1 hz hr h => ?_)
  · obtain ⟨_, _, _, rfl, _⟩ := h
    rfl
  · obtain ⟨D, i, wd, rfl, rfl, rfl, KC, hwd, q⟩ := h
    have hp : p ∈ (L2H.cxH (L2N.CX P w) P w K mg base n__law_kind "_law_kind" (defScope s__law_kind) f cdv A outer s H E p).pn := List.mem_singleton.mpr rfl
    have hot : L2H.HotC (L2H.cxH (L2N.CX P w) P w K mg base n__law_kind "_law_kind" (defScope s__law_kind) f cdv A outer s H E p) := ⟨p, hot1, hp⟩
    refine ⟨_, (pss_cons (ps_set (i := 1) S.nd rfl (Or.inl rfl) (pe_lst (pa_cons (pe_tup (pa_cons pe_str (pa_cons (pe_callB (call_isP KC.x hp hz) (by rfl) B.isinstance (by decide +kernel) (pa_cons (pv 0) (pa_cons (pe_glob (v := .ref (cl "NoTable")) (by rfl) (KG.g "NoTable" (by decide +kernel)) rfl) pa_nil))) pa_nil))) (pa_cons (pe_tup (pa_cons pe_str (pa_cons (pe_callB (call_isP KC.x hp hz) (by rfl) B.isinstance (by decide +kernel) (pa_cons (pv 0) (pa_cons (pe_glob (v := .ref (cl "NoHour")) (by rfl) (KG.g "NoHour" (by decide +kernel)) rfl) pa_nil))) pa_nil))) pa_nil))))
      (pss_cons (ps_set (i := 1) S.nd rfl (Or.inl rfl) (pe_op op_cat (pv 1) (pe_lst (pa_cons (pe_tup (pa_cons pe_str (pa_cons (pe_callB (call_isP KC.x hp hz) (by rfl) B.isinstance (by decide +kernel) (pa_cons (pv 0) (pa_cons (pe_glob (v := .ref (cl "NoPolicy")) (by rfl) (KG.g "NoPolicy" (by decide +kernel)) rfl) pa_nil))) pa_nil))) (pa_cons (pe_tup (pa_cons pe_str (pa_cons (pe_callB (call_isP KC.x hp hz) (by rfl) B.isinstance (by decide +kernel) (pa_cons (pv 0) (pa_cons (pe_glob (v := .ref (cl "NoStart")) (by rfl) (KG.g "NoStart" (by decide +kernel)) rfl) pa_nil))) pa_nil))) pa_nil)))))
      (pss_cons (ps_set (i := 1) S.nd rfl (Or.inl rfl) (pe_op op_cat (pv 1) (pe_lst (pa_cons (pe_tup (pa_cons pe_str (pa_cons (pe_callB (call_isP KC.x hp hz) (by rfl) B.isinstance (by decide +kernel) (pa_cons (pv 0) (pa_cons (pe_glob (v := .ref (cl "NoDays")) (by rfl) (KG.g "NoDays" (by decide +kernel)) rfl) pa_nil))) pa_nil))) (pa_cons (pe_tup (pa_cons pe_str (pa_cons (pe_callB (call_isP KC.x hp hz) (by rfl) B.isinstance (by decide +kernel) (pa_cons (pv 0) (pa_cons (pe_glob (v := .ref (cl "NoShip")) (by rfl) (KG.g "NoShip" (by decide +kernel)) rfl) pa_nil))) pa_nil))) pa_nil)))))
      (pss_cons (ps_set (i := 1) S.nd rfl (Or.inl rfl) (pe_op op_cat (pv 1) (pe_lst (pa_cons (pe_tup (pa_cons pe_str (pa_cons (pe_callB (call_isP KC.x hp hz) (by rfl) B.isinstance (by decide +kernel) (pa_cons (pv 0) (pa_cons (pe_glob (v := .ref (cl "NoBerth")) (by rfl) (KG.g "NoBerth" (by decide +kernel)) rfl) pa_nil))) pa_nil))) (pa_cons (pe_tup (pa_cons pe_str (pa_cons (pe_callB (call_isP KC.x hp hz) (by rfl) B.isinstance (by decide +kernel) (pa_cons (pv 0) (pa_cons (pe_glob (v := .ref (cl "NoMap")) (by rfl) (KG.g "NoMap" (by decide +kernel)) rfl) pa_nil))) pa_nil))) pa_nil)))))
      (pss_cons (ps_set (i := 1) S.nd rfl (Or.inl rfl) (pe_op op_cat (pv 1) (pe_lst (pa_cons (pe_tup (pa_cons pe_str (pa_cons (pe_callB (call_isP KC.x hp hz) (by rfl) B.isinstance (by decide +kernel) (pa_cons (pv 0) (pa_cons (pe_glob (v := .ref (cl "NoPlan")) (by rfl) (KG.g "NoPlan" (by decide +kernel)) rfl) pa_nil))) pa_nil))) (pa_cons (pe_tup (pa_cons pe_str (pa_cons (pe_callB (call_isP KC.x hp hz) (by rfl) B.isinstance (by decide +kernel) (pa_cons (pv 0) (pa_cons (pe_glob (v := .ref (cl "NoNumber")) (by rfl) (KG.g "NoNumber" (by decide +kernel)) rfl) pa_nil))) pa_nil))) pa_nil)))))
      (pss_cons (ps_set (i := 1) S.nd rfl (Or.inl rfl) (pe_op op_cat (pv 1) (pe_lst (pa_cons (pe_tup (pa_cons pe_str (pa_cons (pe_callB (call_isP KC.x hp hz) (by rfl) B.isinstance (by decide +kernel) (pa_cons (pv 0) (pa_cons (pe_glob (v := .ref (cl "NoExchange")) (by rfl) (KG.g "NoExchange" (by decide +kernel)) rfl) pa_nil))) pa_nil))) (pa_cons (pe_tup (pa_cons pe_str (pa_cons (pe_callB (call_isP KC.x hp hz) (by rfl) B.isinstance (by decide +kernel) (pa_cons (pv 0) (pa_cons (pe_glob (v := .ref (cl "NoChanges")) (by rfl) (KG.g "NoChanges" (by decide +kernel)) rfl) pa_nil))) pa_nil))) pa_nil)))))
      (pss_cons (ps_set (i := 1) S.nd rfl (Or.inl rfl) (pe_op op_cat (pv 1) (pe_lst (pa_cons (pe_tup (pa_cons pe_str (pa_cons (pe_callB (call_isP KC.x hp hz) (by rfl) B.isinstance (by decide +kernel) (pa_cons (pv 0) (pa_cons (pe_glob (v := .ref (cl "NoRoom")) (by rfl) (KG.g "NoRoom" (by decide +kernel)) rfl) pa_nil))) pa_nil))) (pa_cons (pe_tup (pa_cons pe_str (pa_cons (pe_callB (call_isP KC.x hp hz) (by rfl) B.isinstance (by decide +kernel) (pa_cons (pv 0) (pa_cons (pe_glob (v := .ref (cl "TooLong")) (by rfl) (KG.g "TooLong" (by decide +kernel)) rfl) pa_nil))) pa_nil))) pa_nil)))))
      (pss_cons (ps_set (i := 1) S.nd rfl (Or.inl rfl) (pe_op op_cat (pv 1) (pe_lst (pa_cons (pe_tup (pa_cons pe_str (pa_cons (pe_callB (call_isP KC.x hp hz) (by rfl) B.isinstance (by decide +kernel) (pa_cons (pv 0) (pa_cons (pe_glob (v := .ref (cl "Nothing")) (by rfl) (KG.g "Nothing" (by decide +kernel)) rfl) pa_nil))) pa_nil))) (pa_cons (pe_tup (pa_cons pe_str (pa_cons (pe_callB (call_isP KC.x hp hz) (by rfl) B.isinstance (by decide +kernel) (pa_cons (pv 0) (pa_cons (pe_glob (v := .ref (cl "NoText")) (by rfl) (KG.g "NoText" (by decide +kernel)) rfl) pa_nil))) pa_nil))) pa_nil)))))
      (pss_cons (ps_set (i := 1) S.nd rfl (Or.inl rfl) (pe_op op_cat (pv 1) (pe_lst (pa_cons (pe_tup (pa_cons pe_str (pa_cons (pe_callB (call_isP KC.x hp hz) (by rfl) B.isinstance (by decide +kernel) (pa_cons (pv 0) (pa_cons (pe_glob (v := .ref (cl "NoRow")) (by rfl) (KG.g "NoRow" (by decide +kernel)) rfl) pa_nil))) pa_nil))) pa_nil))))
      (pss_cons (ps_setLcH (i := 2) (own := [("_law_word", 3), ("_law_so", 4)]) (g := (gTup K 2 (gCons (gName 3) (gCons (gName 4) gNil)))) hot S.nd rfl rfl rfl rfl (sw_true rfl rfl rfl (by decide +kernel)) (pi_listH (pv 1)) (blkOk_by (own := [("_law_word", 3), ("_law_so", 4)]) (N := n__law_kind) (sc := defScope s__law_kind) (by decide +kernel)) (fun _ _ _ _ _ => (pg_tupH hot (pgs_cons (pg_name (i := 3) S.nd rfl (Or.inl rfl)) (pgs_cons (pg_name (i := 4) S.nd rfl (Or.inl rfl)) pgs_nil)))) (fun _ _ _ _ _ => (pts_one (pt_val (pv 4)))) (fun _ _ _ _ _ => (pv 3)))
      (pss_one (ps_ret (pe_ifExp (PW.pt (pw_and (pt_cmpR op_eq (pe_callB call_len_seq (by rfl) B.len (by decide +kernel) (pa_cons (pv 2) pa_nil)) pe_int (nomark _)) (pw_and1 (pt_val (pe_callB (call_isP KC.x hp hz) (by rfl) B.isinstance (by decide +kernel) (pa_cons (pv 0) (pa_cons (pe_bltn (v := .ty "ValueError") (by rfl) KG.v (by decide +kernel) rfl) pa_nil))))))) (pe_ix ix_list (pv 2) pe_int (fun _ _ => rfl)) pe_str))))))))))))), ?_⟩
    have h2s : (2 : Nat) ≤ sizeLine := by decide
    have hsz : (100 : Nat) ≤ sizeLine := by decide
    refine ⟨_, rfl, .ref (cl "NoTable"), _, _, rfl, refR, KC.k 0 _ rfl, h2s, fun t0 ht0 => ⟨_, rfl, .ref (cl "NoHour"), _, _, rfl, refR, KC.k 1 _ rfl, h2s, fun t1 ht1 => ⟨h2s, fun L0 hL => ?_⟩⟩⟩
    obtain ⟨G0, hG⟩ : ∃ G, G = upd (upd (upd H t0 (.tup [.str "table", .bl (decide (0 = i))])) t1 (.tup [.str "hour", .bl (decide (1 = i))])) L0 (.lst [.ref t0, .ref t1]) := ⟨_, rfl⟩
    obtain ⟨kG0, tG0⟩ : Kp [] H G0 ∧ TpAll G0 [.ref t0, .ref t1] (kdL i 2) := by
      have k1 := (Kp.new (S := []) ht0 (o := (.tup [.str "table", .bl (decide (0 = i))]))).trans (Kp.new ht1 (o := (.tup [.str "hour", .bl (decide (1 = i))])))
      have k2 := k1.trans (Kp.new hL (o := .lst [.ref t0, .ref t1]))
      have a0 : (upd H t0 (.tup [.str "table", .bl (decide (0 = i))])) t0 = some (.tup [.str "table", .bl (decide (0 = i))]) := upd_same
      have a2 := (Kp.new (S := []) hL (o := .lst [.ref t0, .ref t1])).tup _ _ ((Kp.new (S := []) ht1 (o := (.tup [.str "hour", .bl (decide (1 = i))]))).tup _ _ a0)
      have c1 : (upd (upd H t0 (.tup [.str "table", .bl (decide (0 = i))])) t1 (.tup [.str "hour", .bl (decide (1 = i))])) t1 = some (.tup [.str "hour", .bl (decide (1 = i))]) := upd_same
      have c2 := (Kp.new (S := []) hL (o := .lst [.ref t0, .ref t1])).tup _ _ c1
      rw [← hG] at k2 a2 c2
      exact ⟨k2, .cons (.tup a2 (.cons (.str _) (.cons (.bl _) .nil))) (.cons (.tup c2 (.cons (.str _) (.cons (.bl _) .nil))) .nil)⟩
    have eG0 : G0 L0 = some (.lst [.ref t0, .ref t1]) := by rw [hG]; exact upd_same
    have nG0 : [V.ref t0, V.ref t1].length = 2 := rfl
    rw [← hG]
    generalize [V.ref t0, V.ref t1] = xs0 at tG0 eG0 nG0
    clear hG ht0 ht1 hL
    refine ⟨_, rfl, _, rfl, .ref (cl "NoPolicy"), _, _, rfl, refR, KC.k 2 _ rfl, h2s, fun t0 ht0 => ⟨_, rfl, .ref (cl "NoStart"), _, _, rfl, refR, KC.k 3 _ rfl, h2s, fun t1 ht1 => ⟨h2s, fun La hLa => ?_⟩⟩⟩
    obtain ⟨Ga, hGa⟩ : ∃ Ga, Ga = upd (upd (upd G0 t0 (.tup [.str "policy", .bl (decide (2 = i))])) t1 (.tup [.str "start", .bl (decide (3 = i))])) La (.lst [.ref t0, .ref t1]) := ⟨_, rfl⟩
    obtain ⟨k1, e1, c1, t1'⟩ := cat2 eG0 tG0 ht0 ht1 hLa hGa
    rw [← hGa]
    refine ⟨L0, La, xs0, _, rfl, rfl, e1, c1, by rw [nG0]; show 4 ≤ sizeLine; omega, fun L1 hLn => ?_⟩
    have k2 := Kp.new (S := []) hLn (o := .lst (xs0 ++ [.ref t0, .ref t1]))
    have eG1 : (upd Ga L1 (.lst (xs0 ++ [.ref t0, .ref t1]))) L1 = some (.lst (xs0 ++ [.ref t0, .ref t1])) := upd_same
    have tG1 : TpAll (upd Ga L1 (.lst (xs0 ++ [.ref t0, .ref t1]))) (xs0 ++ [.ref t0, .ref t1]) (kdL i 4) := by
      have z := t1'.kp k2
      rw [kd2 (n := 2) rfl rfl] at z
      exact z
    have kG1 := kG0.trans (k1.trans k2)
    have nG1 : (xs0 ++ [V.ref t0, V.ref t1]).length = 4 := by rw [List.length_append, nG0]; rfl
    generalize upd Ga L1 (.lst (xs0 ++ [V.ref t0, V.ref t1])) = G1 at k2 eG1 tG1 kG1 ⊢
    generalize xs0 ++ [V.ref t0, V.ref t1] = xs1 at eG1 tG1 nG1
    clear eG0 tG0 nG0 kG0 k1 e1 c1 t1' hLn ht0 ht1 hLa hGa k2
    refine ⟨_, rfl, _, rfl, .ref (cl "NoDays"), _, _, rfl, refR, KC.k 4 _ rfl, h2s, fun t0 ht0 => ⟨_, rfl, .ref (cl "NoShip"), _, _, rfl, refR, KC.k 5 _ rfl, h2s, fun t1 ht1 => ⟨h2s, fun La hLa => ?_⟩⟩⟩
    obtain ⟨Ga, hGa⟩ : ∃ Ga, Ga = upd (upd (upd G1 t0 (.tup [.str "days", .bl (decide (4 = i))])) t1 (.tup [.str "ship", .bl (decide (5 = i))])) La (.lst [.ref t0, .ref t1]) := ⟨_, rfl⟩
    obtain ⟨k1, e1, c1, t1'⟩ := cat2 eG1 tG1 ht0 ht1 hLa hGa
    rw [← hGa]
    refine ⟨L1, La, xs1, _, rfl, rfl, e1, c1, by rw [nG1]; show 6 ≤ sizeLine; omega, fun L2 hLn => ?_⟩
    have k2 := Kp.new (S := []) hLn (o := .lst (xs1 ++ [.ref t0, .ref t1]))
    have eG2 : (upd Ga L2 (.lst (xs1 ++ [.ref t0, .ref t1]))) L2 = some (.lst (xs1 ++ [.ref t0, .ref t1])) := upd_same
    have tG2 : TpAll (upd Ga L2 (.lst (xs1 ++ [.ref t0, .ref t1]))) (xs1 ++ [.ref t0, .ref t1]) (kdL i 6) := by
      have z := t1'.kp k2
      rw [kd2 (n := 4) rfl rfl] at z
      exact z
    have kG2 := kG1.trans (k1.trans k2)
    have nG2 : (xs1 ++ [V.ref t0, V.ref t1]).length = 6 := by rw [List.length_append, nG1]; rfl
    generalize upd Ga L2 (.lst (xs1 ++ [V.ref t0, V.ref t1])) = G2 at k2 eG2 tG2 kG2 ⊢
    generalize xs1 ++ [V.ref t0, V.ref t1] = xs2 at eG2 tG2 nG2
    clear eG1 tG1 nG1 kG1 k1 e1 c1 t1' hLn ht0 ht1 hLa hGa k2
    refine ⟨_, rfl, _, rfl, .ref (cl "NoBerth"), _, _, rfl, refR, KC.k 6 _ rfl, h2s, fun t0 ht0 => ⟨_, rfl, .ref (cl "NoMap"), _, _, rfl, refR, KC.k 7 _ rfl, h2s, fun t1 ht1 => ⟨h2s, fun La hLa => ?_⟩⟩⟩
    obtain ⟨Ga, hGa⟩ : ∃ Ga, Ga = upd (upd (upd G2 t0 (.tup [.str "berth", .bl (decide (6 = i))])) t1 (.tup [.str "map", .bl (decide (7 = i))])) La (.lst [.ref t0, .ref t1]) := ⟨_, rfl⟩
    obtain ⟨k1, e1, c1, t1'⟩ := cat2 eG2 tG2 ht0 ht1 hLa hGa
    rw [← hGa]
    refine ⟨L2, La, xs2, _, rfl, rfl, e1, c1, by rw [nG2]; show 8 ≤ sizeLine; omega, fun L3 hLn => ?_⟩
    have k2 := Kp.new (S := []) hLn (o := .lst (xs2 ++ [.ref t0, .ref t1]))
    have eG3 : (upd Ga L3 (.lst (xs2 ++ [.ref t0, .ref t1]))) L3 = some (.lst (xs2 ++ [.ref t0, .ref t1])) := upd_same
    have tG3 : TpAll (upd Ga L3 (.lst (xs2 ++ [.ref t0, .ref t1]))) (xs2 ++ [.ref t0, .ref t1]) (kdL i 8) := by
      have z := t1'.kp k2
      rw [kd2 (n := 6) rfl rfl] at z
      exact z
    have kG3 := kG2.trans (k1.trans k2)
    have nG3 : (xs2 ++ [V.ref t0, V.ref t1]).length = 8 := by rw [List.length_append, nG2]; rfl
    generalize upd Ga L3 (.lst (xs2 ++ [V.ref t0, V.ref t1])) = G3 at k2 eG3 tG3 kG3 ⊢
    generalize xs2 ++ [V.ref t0, V.ref t1] = xs3 at eG3 tG3 nG3
    clear eG2 tG2 nG2 kG2 k1 e1 c1 t1' hLn ht0 ht1 hLa hGa k2
    refine ⟨_, rfl, _, rfl, .ref (cl "NoPlan"), _, _, rfl, refR, KC.k 8 _ rfl, h2s, fun t0 ht0 => ⟨_, rfl, .ref (cl "NoNumber"), _, _, rfl, refR, KC.k 9 _ rfl, h2s, fun t1 ht1 => ⟨h2s, fun La hLa => ?_⟩⟩⟩
    obtain ⟨Ga, hGa⟩ : ∃ Ga, Ga = upd (upd (upd G3 t0 (.tup [.str "plan", .bl (decide (8 = i))])) t1 (.tup [.str "number", .bl (decide (9 = i))])) La (.lst [.ref t0, .ref t1]) := ⟨_, rfl⟩
    obtain ⟨k1, e1, c1, t1'⟩ := cat2 eG3 tG3 ht0 ht1 hLa hGa
    rw [← hGa]
    refine ⟨L3, La, xs3, _, rfl, rfl, e1, c1, by rw [nG3]; show 10 ≤ sizeLine; omega, fun L4 hLn => ?_⟩
    have k2 := Kp.new (S := []) hLn (o := .lst (xs3 ++ [.ref t0, .ref t1]))
    have eG4 : (upd Ga L4 (.lst (xs3 ++ [.ref t0, .ref t1]))) L4 = some (.lst (xs3 ++ [.ref t0, .ref t1])) := upd_same
    have tG4 : TpAll (upd Ga L4 (.lst (xs3 ++ [.ref t0, .ref t1]))) (xs3 ++ [.ref t0, .ref t1]) (kdL i 10) := by
      have z := t1'.kp k2
      rw [kd2 (n := 8) rfl rfl] at z
      exact z
    have kG4 := kG3.trans (k1.trans k2)
    have nG4 : (xs3 ++ [V.ref t0, V.ref t1]).length = 10 := by rw [List.length_append, nG3]; rfl
    generalize upd Ga L4 (.lst (xs3 ++ [V.ref t0, V.ref t1])) = G4 at k2 eG4 tG4 kG4 ⊢
    generalize xs3 ++ [V.ref t0, V.ref t1] = xs4 at eG4 tG4 nG4
    clear eG3 tG3 nG3 kG3 k1 e1 c1 t1' hLn ht0 ht1 hLa hGa k2
    refine ⟨_, rfl, _, rfl, .ref (cl "NoExchange"), _, _, rfl, refR, KC.k 10 _ rfl, h2s, fun t0 ht0 => ⟨_, rfl, .ref (cl "NoChanges"), _, _, rfl, refR, KC.k 11 _ rfl, h2s, fun t1 ht1 => ⟨h2s, fun La hLa => ?_⟩⟩⟩
    obtain ⟨Ga, hGa⟩ : ∃ Ga, Ga = upd (upd (upd G4 t0 (.tup [.str "exchange", .bl (decide (10 = i))])) t1 (.tup [.str "changes", .bl (decide (11 = i))])) La (.lst [.ref t0, .ref t1]) := ⟨_, rfl⟩
    obtain ⟨k1, e1, c1, t1'⟩ := cat2 eG4 tG4 ht0 ht1 hLa hGa
    rw [← hGa]
    refine ⟨L4, La, xs4, _, rfl, rfl, e1, c1, by rw [nG4]; show 12 ≤ sizeLine; omega, fun L5 hLn => ?_⟩
    have k2 := Kp.new (S := []) hLn (o := .lst (xs4 ++ [.ref t0, .ref t1]))
    have eG5 : (upd Ga L5 (.lst (xs4 ++ [.ref t0, .ref t1]))) L5 = some (.lst (xs4 ++ [.ref t0, .ref t1])) := upd_same
    have tG5 : TpAll (upd Ga L5 (.lst (xs4 ++ [.ref t0, .ref t1]))) (xs4 ++ [.ref t0, .ref t1]) (kdL i 12) := by
      have z := t1'.kp k2
      rw [kd2 (n := 10) rfl rfl] at z
      exact z
    have kG5 := kG4.trans (k1.trans k2)
    have nG5 : (xs4 ++ [V.ref t0, V.ref t1]).length = 12 := by rw [List.length_append, nG4]; rfl
    generalize upd Ga L5 (.lst (xs4 ++ [V.ref t0, V.ref t1])) = G5 at k2 eG5 tG5 kG5 ⊢
    generalize xs4 ++ [V.ref t0, V.ref t1] = xs5 at eG5 tG5 nG5
    clear eG4 tG4 nG4 kG4 k1 e1 c1 t1' hLn ht0 ht1 hLa hGa k2
    refine ⟨_, rfl, _, rfl, .ref (cl "NoRoom"), _, _, rfl, refR, KC.k 12 _ rfl, h2s, fun t0 ht0 => ⟨_, rfl, .ref (cl "TooLong"), _, _, rfl, refR, KC.k 13 _ rfl, h2s, fun t1 ht1 => ⟨h2s, fun La hLa => ?_⟩⟩⟩
    obtain ⟨Ga, hGa⟩ : ∃ Ga, Ga = upd (upd (upd G5 t0 (.tup [.str "room", .bl (decide (12 = i))])) t1 (.tup [.str "long", .bl (decide (13 = i))])) La (.lst [.ref t0, .ref t1]) := ⟨_, rfl⟩
    obtain ⟨k1, e1, c1, t1'⟩ := cat2 eG5 tG5 ht0 ht1 hLa hGa
    rw [← hGa]
    refine ⟨L5, La, xs5, _, rfl, rfl, e1, c1, by rw [nG5]; show 14 ≤ sizeLine; omega, fun L6 hLn => ?_⟩
    have k2 := Kp.new (S := []) hLn (o := .lst (xs5 ++ [.ref t0, .ref t1]))
    have eG6 : (upd Ga L6 (.lst (xs5 ++ [.ref t0, .ref t1]))) L6 = some (.lst (xs5 ++ [.ref t0, .ref t1])) := upd_same
    have tG6 : TpAll (upd Ga L6 (.lst (xs5 ++ [.ref t0, .ref t1]))) (xs5 ++ [.ref t0, .ref t1]) (kdL i 14) := by
      have z := t1'.kp k2
      rw [kd2 (n := 12) rfl rfl] at z
      exact z
    have kG6 := kG5.trans (k1.trans k2)
    have nG6 : (xs5 ++ [V.ref t0, V.ref t1]).length = 14 := by rw [List.length_append, nG5]; rfl
    generalize upd Ga L6 (.lst (xs5 ++ [V.ref t0, V.ref t1])) = G6 at k2 eG6 tG6 kG6 ⊢
    generalize xs5 ++ [V.ref t0, V.ref t1] = xs6 at eG6 tG6 nG6
    clear eG5 tG5 nG5 kG5 k1 e1 c1 t1' hLn ht0 ht1 hLa hGa k2
    refine ⟨_, rfl, _, rfl, .ref (cl "Nothing"), _, _, rfl, refR, KC.k 14 _ rfl, h2s, fun t0 ht0 => ⟨_, rfl, .ref (cl "NoText"), _, _, rfl, refR, KC.k 15 _ rfl, h2s, fun t1 ht1 => ⟨h2s, fun La hLa => ?_⟩⟩⟩
    obtain ⟨Ga, hGa⟩ : ∃ Ga, Ga = upd (upd (upd G6 t0 (.tup [.str "nothing", .bl (decide (14 = i))])) t1 (.tup [.str "text", .bl (decide (15 = i))])) La (.lst [.ref t0, .ref t1]) := ⟨_, rfl⟩
    obtain ⟨k1, e1, c1, t1'⟩ := cat2 eG6 tG6 ht0 ht1 hLa hGa
    rw [← hGa]
    refine ⟨L6, La, xs6, _, rfl, rfl, e1, c1, by rw [nG6]; show 16 ≤ sizeLine; omega, fun L7 hLn => ?_⟩
    have k2 := Kp.new (S := []) hLn (o := .lst (xs6 ++ [.ref t0, .ref t1]))
    have eG7 : (upd Ga L7 (.lst (xs6 ++ [.ref t0, .ref t1]))) L7 = some (.lst (xs6 ++ [.ref t0, .ref t1])) := upd_same
    have tG7 : TpAll (upd Ga L7 (.lst (xs6 ++ [.ref t0, .ref t1]))) (xs6 ++ [.ref t0, .ref t1]) (kdL i 16) := by
      have z := t1'.kp k2
      rw [kd2 (n := 14) rfl rfl] at z
      exact z
    have kG7 := kG6.trans (k1.trans k2)
    have nG7 : (xs6 ++ [V.ref t0, V.ref t1]).length = 16 := by rw [List.length_append, nG6]; rfl
    generalize upd Ga L7 (.lst (xs6 ++ [V.ref t0, V.ref t1])) = G7 at k2 eG7 tG7 kG7 ⊢
    generalize xs6 ++ [V.ref t0, V.ref t1] = xs7 at eG7 tG7 nG7
    clear eG6 tG6 nG6 kG6 k1 e1 c1 t1' hLn ht0 ht1 hLa hGa k2
    refine ⟨_, rfl, _, rfl, .ref (cl "NoRow"), _, _, rfl, refR, KC.k 16 _ rfl, h2s, fun t0 ht0 => ⟨(show (1:Nat) ≤ sizeLine by omega), fun La hLa => ?_⟩⟩
    obtain ⟨Ga, hGa⟩ : ∃ Ga, Ga = upd (upd G7 t0 (.tup [.str "row", .bl (decide (16 = i))])) La (.lst [.ref t0]) := ⟨_, rfl⟩
    obtain ⟨k1, e1, c1, t1'⟩ := cat1 eG7 tG7 ht0 hLa hGa
    rw [← hGa]
    refine ⟨L7, La, xs7, _, rfl, rfl, e1, c1, by rw [nG7]; show 17 ≤ sizeLine; omega, fun L8 hLn => ?_⟩
    have k2 := Kp.new (S := []) hLn (o := .lst (xs7 ++ [.ref t0]))
    have eG8 : (upd Ga L8 (.lst (xs7 ++ [.ref t0]))) L8 = some (.lst (xs7 ++ [.ref t0])) := upd_same
    have tG8 : TpAll (upd Ga L8 (.lst (xs7 ++ [.ref t0]))) (xs7 ++ [.ref t0]) (kdL i 17) := by
      have z := t1'.kp k2
      rw [kd1 (n := 16) rfl] at z
      exact z
    have kG8 := kG7.trans (k1.trans k2)
    have nG8 : (xs7 ++ [V.ref t0]).length = 17 := by rw [List.length_append, nG7]; rfl
    generalize upd Ga L8 (.lst (xs7 ++ [V.ref t0])) = G8 at k2 eG8 tG8 kG8 ⊢
    generalize xs7 ++ [V.ref t0] = xs8 at eG8 tG8 nG8
    clear eG7 tG7 nG7 kG7 k1 e1 c1 t1' hLn ht0 hLa hGa k2
    refine ⟨_, rfl, L8, rfl, ⟨xs8, SqL.of eG8⟩, fun D hD => lc_data (walk_list (K := K) (a := L8) (xs := xs8)) (fun j => if j = i then [.str wd] else []) hD (fun H4 k4 => SqL.of (k4.keep _ _ eG8 (by simp))) ?_ ?_⟩
    · rintro j x H4 H5 hj L4 ⟨rfl, hx⟩
      obtain ⟨d, hd, hT⟩ := (tG8.kp L4.kp).get hx
      have hjn : j < 17 := by omega
      rw [kdL_at i 17 j hjn] at hd
      obtain ⟨wj, hwj⟩ : ∃ wj, kindW[j]? = some wj := ⟨_, List.getElem?_eq_getElem (show j < kindW.length from hjn)⟩
      rw [hwj] at hd
      have hd : kdT wj (decide (j = i)) = d := by injection hd
      subst hd
      cases hT with
      | tup e t =>
        cases t with
        | cons t1 t2 => cases t1; cases t2 with
          | cons t3 t4 =>
            cases t3; cases t4
            refine ⟨_, _, rfl, SqT.of e, rfl, _, _, rfl, _, _, rfl, rfl, wipe2 (by decide), _, rfl, ?_⟩
            by_cases hji : j = i
            · refine ⟨_, rfl, iteT' (decide_eq_true hji) ?_⟩
              have ew : wj = wd := by
                rw [hji, hwd] at hwj
                injection hwj with z
                exact z.symm
              refine ⟨_, rfl, L4.fin (d := .str wd) (by omega) hD hj (Kp.refl _) (if_pos hji) ?_⟩
              rw [ew]
              exact .str _
            · exact ⟨_, rfl, iteF' (decide_eq_false hji) (L4.skip hj (Kp.refl _) (if_neg hji))⟩
    · intro H4 acc k4 hacc _ hT
      have hT : TpAll H4 acc [.str wd] := by
        rw [nG8] at hT
        have hi : i < 17 := (List.getElem?_eq_some_iff.mp hwd).1
        rw [kd_flat, if_pos hi] at hT
        exact hT
      cases hT with
      | cons h1 h2 =>
        cases h1; cases h2
        have km := kG8.trans k4
        refine ⟨_, rfl, D, _, rfl, .inl (SqL.of hacc), ?_⟩
        refine ⟨rfl, true, congrArg V.bl (decide_eq_true rfl), iteT' rfl ?_⟩
        refine ⟨_, rfl, .ty "ValueError", _, _, rfl, fun u r => r, KC.v, true, rfl, iteT' rfl ?_⟩
        exact ⟨_, rfl, D, _, 0, _, rfl, rfl, SqL.of hacc, rfl, q H4 km⟩
end
end Ba

set_option maxHeartbeats 400000
namespace Ba
open PySem PySem.Spec PyProof.Rows L2
/-! ### show_table -/
def shipLn (s : Int × Int) : Str := Str.empty ++ "ship " ++ toString s.1 ++ " " ++ toString s.2
def headLn (h : Int) : Str := Str.empty ++ "hours " ++ toString h
def linesM (h : Int) (ss : List (Int × Int)) : List Str := headLn h :: ss.map shipLn
def textM (h : Int) (ss : List (Int × Int)) : Str := Txt.join "" ((linesM h ss).map fun l => l ++ "\n")
theorem tpAll_strs {H : Hp} : ∀ {acc : List V} {ys : List Str}, TpAll H acc (ys.map .str) → acc = ys.map V.str
  | _, [], h => by cases h; rfl
  | _, b :: bs, h => by
    cases h with
    | cons h1 h2 => cases h1; rw [tpAll_strs h2]; rfl
theorem logOk {i : Int} (h0 : 0 ≤ i) (h : i ≤ 30000) : i.natAbs.log2 < 1920 := by
  rcases Nat.eq_zero_or_pos i.natAbs with e | e
  · rw [e]; decide
  · have : i.natAbs.log2 < 15 := (Nat.log2_lt (by omega)).2 (by have : (2:Nat) ^ 15 = 32768 := by decide
                                                                omega)
    omega
theorem numLen {i : Int} (h0 : 0 ≤ i) (h : i ≤ 30000) : (Str.ofString (toString i)).length ≤ 10 := toString_length_le (k := 10) h0 (by decide) (by omega)
theorem len1 {i : Int} (h0 : 0 ≤ i) (h : i ≤ 30000) : (Str.empty ++ "ship " ++ toString i : Str).length ≤ 15 := by
  rw [Str.length_append]
  have z := numLen h0 h
  have : (Str.empty ++ "ship " : Str).length = 5 := by decide
  show _ + (Str.ofString (toString i)).length ≤ _
  omega
theorem len2 {i : Int} (h0 : 0 ≤ i) (h : i ≤ 30000) : (Str.empty ++ "ship " ++ toString i ++ " " : Str).length ≤ 16 := by
  rw [Str.length_append]
  have z := len1 h0 h
  have : (" " : Str).length = 1 := by decide
  omega
theorem len3 {s : Int × Int} (h0 : 0 ≤ s.1) (h : s.1 ≤ 30000) (h2 : 0 ≤ s.2) (h3 : s.2 ≤ 30000) : (shipLn s).length ≤ 26 := by
  unfold shipLn
  rw [Str.length_append]
  have z := len2 h0 h
  have z2 := numLen h2 h3
  show _ + (Str.ofString (toString s.2)).length ≤ _
  omega
theorem sum_le {c : Nat} : ∀ (l : List Str), (∀ y ∈ l, y.length ≤ c) → (l.map (·.length)).sum ≤ l.length * c
  | [], _ => by simp
  | y :: l, h => by
    have a := sum_le l (fun z hz => h z (List.mem_cons_of_mem _ hz))
    have b := h y (List.mem_cons_self ..)
    rw [List.map_cons, List.sum_cons, List.length_cons, Nat.add_mul]
    omega
theorem headLen {h : Int} (h0 : 0 ≤ h) (h1 : h ≤ 1000) : (headLn h).length ≤ 16 := by
  unfold headLn
  rw [Str.length_append]
  have z := numLen h0 (by omega)
  have : (Str.empty ++ "hours " : Str).length = 6 := by decide
  show _ + (Str.ofString (toString h)).length ≤ _
  omega
theorem linesM_len {h : Int} {ss : List (Int × Int)} (tv : TabV h ss) {i : Nat} {ln : Str} (e : (linesM h ss)[i]? = some ln) : ln.length ≤ 26 := by
  have m := List.mem_of_getElem? e
  unfold linesM at m
  rcases List.mem_cons.mp m with rfl | m
  · exact Nat.le_trans (headLen (by have := tv.h1; omega) tv.h2) (by omega)
  · obtain ⟨s, hs, rfl⟩ := List.mem_map.mp m
    have := tv.sh s hs
    have := tv.h2
    exact len3 (by omega) (by omega) (by omega) (by omega)
section
variable {P : Program} {w : World} {K : PySem.W.Frag} {mg : Str → Option Value} {base : Heap} {f : Addr} {fd : FuncData}
abbrev spShow (K : PySem.W.Frag) (CT : Addr) : Sp := Pr fun vs H Q E => ∃ v, vs = [v] ∧ ((∃ t, TyX K H v (.type t) ∧ kitB t "tuple" = some false ∧ E (.ref CT) none H) ∨
  ∃ d, Dp K H v d ∧ (isShapeD d = true → Tp H v d) ∧ ∀ H', Kp [] H H' → if isTableD d = true then Q (.str (textM (tabOf d).1 (tabOf d).2)) H' else E (.ref CT) none H')
theorem ok_show_table {CT : Addr} (D_require_table : DefOk P w K mg base "require_table" 5 p_require_table [] (spReqTable K CT))
    (F : FunS K "show_table" "show_table" s_show_table [] [] f fd) (hm : mg "show_table" = some (.ref f)) : DefOk P w K mg base "show_table" 6 p_show_table [] (spShow K CT) := by
  have S := sc_show_table
  refine defOk F hm S (fun _ _ _ _ _ _ us hl => match us, hl with | [_], _ => rfl) (fun vs H Q E h => ?_) (fun cdv A outer s H vs Q E hr h => ?_)
  · obtain ⟨v, rfl, _⟩ := h
    rfl
  · obtain ⟨v, rfl, h⟩ := h
    refine ⟨_, (pss_cons (ps_expr (pe_fn D_require_table (hr.mono (by decide)) passB rfl (pa_cons (pv 0) pa_nil)))
      (pss_cons (ps_asg (pv 0) (pg_tup rfl (pgs_cons (pg_name (i := 1) S.nd rfl (Or.inl rfl)) (pgs_cons (pg_name (i := 2) S.nd rfl (Or.inl rfl)) pgs_nil))))
      (pss_cons (ps_set (i := 3) S.nd rfl (Or.inl rfl) (pe_op op_cat (pe_lst (pa_cons (pe_joinedD (.cons pe_str (.cons (pe_fmt (pv 1)) .nil))) pa_nil)) (pe_lc (own := [("hour", 4), ("stay", 5)]) (g := (gTup K 2 (gCons (gName 4) (gCons (gName 5) gNil)))) (tt := tYes) (by rfl) S.nd (pi_tup (pv 2)) (blkOk_by (own := [("hour", 4), ("stay", 5)]) (N := n_show_table) (sc := defScope s_show_table) (by decide +kernel)) (fun _ _ _ _ _ => (pg_tup rfl (pgs_cons (pg_name (i := 4) S.nd rfl (Or.inl rfl)) (pgs_cons (pg_name (i := 5) S.nd rfl (Or.inl rfl)) pgs_nil)))) (fun _ _ _ _ _ => pts_nil) (fun _ _ _ _ _ => (pe_joinedD (.cons pe_str (.cons (pe_fmt (pv 4)) (.cons pe_str (.cons (pe_fmt (pv 5)) .nil)))))))))
      (pss_one (ps_ret (pe_join pe_str (pe_lc (own := [("line", 6)]) (g := (gName 6)) (tt := tYes) (by rfl) S.nd (pi_list (pv 3)) (blkOk_by (own := [("line", 6)]) (N := n_show_table) (sc := defScope s_show_table) (by decide +kernel)) (fun _ _ _ _ _ => (pg_name (i := 6) S.nd rfl (Or.inl rfl))) (fun _ _ _ _ _ => pts_nil) (fun _ _ _ _ _ => (pe_op op_add_str (pv 6) pe_str))))))))), ?_⟩
    rcases h with ⟨t, ty, hk, q⟩ | ⟨d, hd, htp, q⟩
    · exact ⟨_, rfl, v, rfl, .inl ⟨t, ty, hk, q⟩⟩
    · refine ⟨_, rfl, v, rfl, .inr ⟨d, hd, htp, fun H1 k1 => ?_⟩⟩
      cases e : isTableD d with
      | false => 
        have q' := q H1 k1
        rw [e] at q'
        exact q'
      | true =>
        refine iteT' rfl ?_
        have hs : isShapeD d = true := by
          unfold isTableD at e
          exact (Bool.and_eq_true _ _ ▸ e).1
        obtain ⟨ed, tv⟩ := isShapeD_eq hs
        have ht := (htp hs).kp k1
        have q' : ∀ H', Kp [] H1 H' → Q (.str (textM (tabOf d).1 (tabOf d).2)) H' := fun H' k => by
          have z := q H' (k1.trans k)
          rw [e] at z
          exact z
        revert q' tv ht
        rw [ed, tabOf_tb]
        generalize (tabOf d).1 = h
        generalize (tabOf d).2 = ss
        intro tv ht q'
        clear q e hs ed htp hd
        obtain ⟨a, b, xs, rfl, ha, hb, hx⟩ := tp_table ht
        have hl := tpAll_mlen hx
        have hn := tv.n
        have h1sz : (1 : Nat) ≤ sizeLine := by decide
        refine ⟨_, rfl, _, _, rfl, SqT.of ha, rfl, _, _, rfl, _, _, rfl, rfl, ?_⟩
        refine ⟨_, rfl, (show (Str.empty ++ "hours " : Str).length ≤ sizeLine by decide), _, rfl, .inr ⟨h, rfl, logOk (by have := tv.h1; omega) (by have := tv.h2; omega), _, rfl, ?_, ?_⟩⟩
        · rw [Str.length_append]
          have z := toString_length_le (k := 10) (v := h) (by have := tv.h1; omega) (by decide) (by have := tv.h2; omega)
          have : (Str.empty ++ "hours " : Str).length = 6 := by decide
          have z2 : (100 : Nat) ≤ sizeLine := by decide
          show _ + (Str.ofString (toString h)).length ≤ _
          omega
        refine ⟨h1sz, fun L1 hL1 => ?_⟩
        have kL : Kp [] H1 (upd H1 L1 (.lst [.str (headLn h)])) := Kp.new hL1
        have hsz : (100 : Nat) ≤ sizeLine := by decide
        refine ⟨_, rfl, b, rfl, ⟨xs, SqT.of (kL.tup _ _ hb)⟩, fun D hD => lc_data (walk_tup (K := K) (a := b) (xs := xs)) (fun i => match ss[i]? with | some s => [.str (shipLn s)] | none => []) hD (fun H4 k4 => SqT.of (k4.tup _ _ (kL.tup _ _ hb))) ?_ ?_⟩
        · rintro i x H4 H5 hi L4 ⟨rfl, hx2⟩
          obtain ⟨s, es, ty⟩ := tpAll_at (hx.kp (kL.trans L4.kp)) hx2
          obtain ⟨c, rfl, hc⟩ := tp_ship ty
          obtain ⟨s0, s1, s2, s3⟩ := tv.sh s (List.mem_of_getElem? es)
          have th := tv.h2
          refine ⟨c, _, rfl, SqT.of hc, rfl, _, _, rfl, _, _, rfl, rfl, wipe2 (by decide), ?_⟩
          refine ⟨_, rfl, (show (Str.empty ++ "ship " : Str).length ≤ sizeLine by decide), _, rfl, .inr ⟨s.1, rfl, logOk (by omega) (by omega), _, rfl, Nat.le_trans (len1 (by omega) (by omega)) (by omega), _, rfl, Nat.le_trans (len2 (by omega) (by omega)) (by omega), _, rfl, .inr ⟨s.2, rfl, logOk (by omega) (by omega), _, rfl, Nat.le_trans (len3 (by omega) (by omega) (by omega) (by omega)) (by omega), ?_⟩⟩⟩
          exact L4.fin (d := .str (shipLn s)) (by omega) hD hi (Kp.refl _) (by rw [es]) (.str _)
        · intro H4 acc k4 hacc _ hT
          rw [hl, flatMap_one ss _ (fun s => PyData.str (shipLn s)) (fun i x e => by rw [e])] at hT
          have ea : acc = (ss.map shipLn).map V.str := tpAll_strs (by rw [List.map_map]; exact hT)
          subst ea
          have e1 : H4 L1 = some (.lst [.str (headLn h)]) := k4.keep _ _ upd_same (by simp)
          refine ⟨L1, D, _, _, rfl, rfl, e1, hacc, by simp; omega, fun L2 hL2 => ?_⟩
          have k2 := Kp.new (S := []) hL2 (o := .lst ([.str (headLn h)] ++ (ss.map shipLn).map V.str))
          have e2 : (upd H4 L2 (.lst ([.str (headLn h)] ++ (ss.map shipLn).map V.str))) L2 = some (.lst ((linesM h ss).map V.str)) := upd_same
          have kk := kL.trans (k4.trans k2)
          generalize upd H4 L2 (.lst ([.str (headLn h)] ++ (ss.map shipLn).map V.str)) = G at e2 kk ⊢
          refine ⟨⟨_, rfl⟩, _, rfl, L2, rfl, ⟨_, SqL.of e2⟩, fun D2 hD2 => lc_data (walk_list (K := K) (a := L2) (xs := (linesM h ss).map V.str)) (fun i => match (linesM h ss)[i]? with | some s => [.str (s ++ "\n")] | none => []) hD2 (fun H4 k4 => SqL.of (k4.keep _ _ e2 (by simp))) ?_ ?_⟩
          · rintro i x H5 H6 hi L4 ⟨rfl, hx2⟩
            obtain ⟨ln, eln, rfl⟩ : ∃ ln, (linesM h ss)[i]? = some ln ∧ x = V.str ln := by
              rw [List.getElem?_map] at hx2
              cases z : (linesM h ss)[i]? with
              | none => rw [z] at hx2; cases hx2
              | some ln => rw [z] at hx2; exact ⟨ln, rfl, by injection hx2 with y; exact y.symm⟩
            have hln := linesM_len tv eln
            have hll : (linesM h ss).length ≤ 25 := by unfold linesM; simp; omega
            refine ⟨wipe1 (by decide), _, rfl, _, _, rfl, rfl, (show ln.length + 1 ≤ sizeLine by omega), ?_⟩
            exact L4.fin (d := .str (ln ++ "\n")) (by simp; omega) hD2 hi (Kp.refl _) (by rw [eln]) (.str _)
          · intro H5 acc k5 hacc2 _ hT2
            rw [List.length_map, flatMap_one (linesM h ss) _ (fun s => PyData.str (s ++ "\n")) (fun i x e => by rw [e])] at hT2
            have ea : acc = ((linesM h ss).map fun l : Str => (l ++ "\n" : Str)).map V.str := tpAll_strs (by rw [List.map_map]; exact hT2)
            subst ea
            refine ⟨_, _, _, rfl, rfl, .inl (SqL.of hacc2), ?_, q' _ (kk.trans k5)⟩
            have z := sum_le (c := 27) ((linesM h ss).map fun l : Str => (l ++ "\n" : Str)) (fun y hy => by
              obtain ⟨ln, hm, rfl⟩ := List.mem_map.mp hy
              obtain ⟨i, hi, e⟩ := List.getElem_of_mem hm
              have := linesM_len tv (i := i) (ln := ln) (by rw [← e]; exact List.getElem?_eq_getElem hi)
              rw [Str.length_append]
              have : ("\n" : Str).length = 1 := by decide
              omega)
            have hll : (linesM h ss).length ≤ 25 := by unfold linesM; simp; omega
            rw [List.length_map] at z ⊢
            have e0 : (Str.ofString "").length = 0 := by decide
            rw [e0]
            omega
end
end Ba

set_option maxHeartbeats 400000
namespace Ba
open PySem PySem.Spec PyProof.Rows L2
/-! ### _law_text -/
section
variable {P : Program} {w : World} {K : PySem.W.Frag} {mg : Str → Option Value} {base : Heap} {f : Addr} {fd : FuncData}
def shipL2 (s : Int × Int) : Str := "ship " ++ toString s.1 ++ " " ++ toString s.2
def linesL (h : Int) (ss : List (Int × Int)) : List Str := ("hours " ++ toString h) :: ss.map shipL2
theorem len3L {s : Int × Int} (h0 : 0 ≤ s.1) (h : s.1 ≤ 30000) (h2 : 0 ≤ s.2) (h3 : s.2 ≤ 30000) : (shipL2 s).length ≤ 26 := by
  unfold shipL2
  rw [Str.length_append, Str.length_append, Str.length_append]
  have z := numLen h0 h
  have z2 := numLen h2 h3
  have : ("ship " : Str).length = 5 := by decide
  have : (" " : Str).length = 1 := by decide
  show _ + (Str.ofString (toString s.1)).length + _ + (Str.ofString (toString s.2)).length ≤ _
  omega
theorem joinLen (a : Str) : ∀ l : List Str, (Txt.join a l).length ≤ (l.map (·.length)).sum + l.length * a.length
  | [] => by rw [TL.join_eq]; show (Str.empty).length ≤ _; simp [Str.empty, Str.length]
  | [x] => by rw [TL.join_eq]; show x.length ≤ _; simp
  | x :: y :: r => by
    have z := joinLen a (y :: r)
    rw [TL.join_eq] at z ⊢
    show (x ++ a ++ Str.join a (y :: r)).length ≤ _
    rw [Str.length_append, Str.length_append, List.map_cons, List.sum_cons, List.length_cons, Nat.add_mul]
    omega
abbrev spLawText : Sp := Pr fun vs H Q _ => ∃ (v : V) (h : Int) (ss : List (Int × Int)), vs = [v] ∧ Tp H v (tbD h ss) ∧ TabV h ss ∧ ∀ H', Kp [] H H' → Q (.str (Txt.join "\n" (linesL h ss) ++ "\n")) H'
theorem ok_law_text (B : Bi mg) (F : FunS K "_law_text" "_law_text" s__law_text [] [] f fd) (hm : mg "_law_text" = some (.ref f)) : DefOk P w K mg base "_law_text" 1 p__law_text [] spLawText := by
  have S := sc__law_text
  refine defOk F hm S (fun _ _ _ _ _ _ us hl => match us, hl with | [_], _ => rfl) (fun vs H Q E h => ?_) (fun cdv A outer s H vs Q E hr h => ?_)
  · obtain ⟨v, h, ss, rfl, _⟩ := h
    rfl
  · obtain ⟨v, h, ss, rfl, ht, tv, q⟩ := h
    refine ⟨_, (pss_cons (ps_set (i := 1) S.nd rfl (Or.inl rfl) (pe_op op_cat (pe_lst (pa_cons (pe_op op_add_str pe_str (pe_callTy call_str_int (by rfl) B.str (by decide +kernel) (pa_cons (pe_ix ix_tup (pv 0) pe_int (fun _ _ => rfl)) pa_nil))) pa_nil)) (pe_lc (own := [("_law_hour", 2), ("_law_stay", 3)]) (g := (gTup K 2 (gCons (gName 2) (gCons (gName 3) gNil)))) (tt := tYes) (by rfl) S.nd (pi_tup (pe_ix ix_tup (pv 0) pe_int (fun _ _ => rfl))) (blkOk_by (own := [("_law_hour", 2), ("_law_stay", 3)]) (N := n__law_text) (sc := defScope s__law_text) (by decide +kernel)) (fun _ _ _ _ _ => (pg_tup rfl (pgs_cons (pg_name (i := 2) S.nd rfl (Or.inl rfl)) (pgs_cons (pg_name (i := 3) S.nd rfl (Or.inl rfl)) pgs_nil)))) (fun _ _ _ _ _ => pts_nil) (fun _ _ _ _ _ => (pe_op op_add_str (pe_op op_add_str (pe_op op_add_str pe_str (pe_callTy call_str_int (by rfl) B.str (by decide +kernel) (pa_cons (pv 2) pa_nil))) pe_str) (pe_callTy call_str_int (by rfl) B.str (by decide +kernel) (pa_cons (pv 3) pa_nil)))))))
      (pss_one (ps_ret (pe_op op_add_str (pe_join pe_str (pv 1)) pe_str)))), ?_⟩
    obtain ⟨a, b, xs, rfl, ha, hb, hx⟩ := tp_table ht
    have hl := tpAll_mlen hx
    have hn := tv.n
    have th1 := tv.h1
    have th2 := tv.h2
    have hsz : (100 : Nat) ≤ sizeLine := by decide
    have h1sz : (1 : Nat) ≤ sizeLine := by decide
    have l6 : ("hours " : Str).length = 6 := by decide
    have l5 : ("ship " : Str).length = 5 := by decide
    have l1 : (" " : Str).length = 1 := by decide
    have zh := numLen (i := h) (by omega) (by omega)
    refine ⟨_, rfl, a, _, 0, _, rfl, rfl, SqT.of ha, rfl, h, rfl, logOk (by omega) (by omega), _, _, rfl, rfl, (show ("hours " : Str).length + (Str.ofString (toString h)).length ≤ sizeLine by omega), h1sz, fun L1 hL1 => ?_⟩
    have kL : Kp [] H (upd H L1 (.lst [.str ("hours " ++ toString h)])) := Kp.new hL1
    refine ⟨_, rfl, a, _, 1, _, rfl, rfl, SqT.of (kL.tup _ _ ha), rfl, b, rfl, ⟨xs, SqT.of (kL.tup _ _ hb)⟩, fun D hD => lc_data (walk_tup (K := K) (a := b) (xs := xs)) (fun i => match ss[i]? with | some s => [.str (shipL2 s)] | none => []) hD (fun H4 k4 => SqT.of (k4.tup _ _ (kL.tup _ _ hb))) ?_ ?_⟩
    · rintro i x H4 H5 hi L4 ⟨rfl, hx2⟩
      obtain ⟨s, es, ty⟩ := tpAll_at (hx.kp (kL.trans L4.kp)) hx2
      obtain ⟨c, rfl, hc⟩ := tp_ship ty
      obtain ⟨s0, s1, s2, s3⟩ := tv.sh s (List.mem_of_getElem? es)
      have z1 := numLen (i := s.1) (by omega) (by omega)
      have z2 := numLen (i := s.2) (by omega) (by omega)
      refine ⟨c, _, rfl, SqT.of hc, rfl, _, _, rfl, _, _, rfl, rfl, wipe2 (by decide), ?_⟩
      refine ⟨_, rfl, s.1, rfl, logOk (by omega) (by omega), _, _, rfl, rfl, (show ("ship " : Str).length + (Str.ofString (toString s.1)).length ≤ sizeLine by omega), _, _, rfl, rfl, ?_, _, rfl, s.2, rfl, logOk (by omega) (by omega), _, _, rfl, rfl, ?_, ?_⟩
      · show ("ship " ++ toString s.1 : Str).length + (" " : Str).length ≤ sizeLine
        rw [Str.length_append]
        show _ + (Str.ofString (toString s.1)).length + _ ≤ _
        omega
      · show ("ship " ++ toString s.1 ++ " " : Str).length + (Str.ofString (toString s.2)).length ≤ sizeLine
        rw [Str.length_append, Str.length_append]
        show _ + (Str.ofString (toString s.1)).length + _ + _ ≤ _
        omega
      · exact L4.fin (d := .str (shipL2 s)) (by omega) hD hi (Kp.refl _) (by rw [es]) (.str _)
    · intro H4 acc k4 hacc _ hT
      rw [hl, flatMap_one ss _ (fun s => PyData.str (shipL2 s)) (fun i x e => by rw [e])] at hT
      have ea : acc = (ss.map shipL2).map V.str := tpAll_strs (by rw [List.map_map]; exact hT)
      subst ea
      have e1 : H4 L1 = some (.lst [.str ("hours " ++ toString h)]) := k4.keep _ _ upd_same (by simp)
      refine ⟨L1, D, _, _, rfl, rfl, e1, hacc, by simp; omega, fun L2 hL2 => ?_⟩
      have k2 := Kp.new (S := []) hL2 (o := .lst ([.str ("hours " ++ toString h)] ++ (ss.map shipL2).map V.str))
      have e2 : (upd H4 L2 (.lst ([.str ("hours " ++ toString h)] ++ (ss.map shipL2).map V.str))) L2 = some (.lst ((linesL h ss).map V.str)) := upd_same
      have kk := kL.trans (k4.trans k2)
      generalize upd H4 L2 (.lst ([.str ("hours " ++ toString h)] ++ (ss.map shipL2).map V.str)) = G at e2 kk ⊢
      have zs := sum_le (c := 26) (linesL h ss) (fun y hy => by
        unfold linesL at hy
        rcases List.mem_cons.mp hy with rfl | hy
        · rw [Str.length_append]
          show _ + (Str.ofString (toString h)).length ≤ _
          omega
        · obtain ⟨s, hs, rfl⟩ := List.mem_map.mp hy
          have := tv.sh s hs
          exact len3L (by omega) (by omega) (by omega) (by omega))
      have hll : (linesL h ss).length ≤ 25 := by unfold linesL; simp; omega
      have n1 : (Str.ofString "\n").length = 1 := by decide
      have hbig : (1000000 : Nat) ≤ sizeLine := by decide
      refine ⟨⟨_, rfl⟩, _, rfl, _, _, _, rfl, rfl, .inl (SqL.of e2), ?_, _, _, rfl, rfl, ?_, q _ kk⟩
      · rw [n1, Nat.mul_one]
        omega
      · have z := joinLen (Str.ofString "\n") (linesL h ss)
        rw [n1, Nat.mul_one] at z
        show _ + ("\n" : Str).length ≤ _
        omega
end
end Ba

set_option maxHeartbeats 400000
namespace Ba
open PySem PySem.Spec PyProof.Rows L2
/-! ### the two forms of a text -/
theorem emptyS : (Str.ofString "" : Str) = Str.empty := by decide
theorem join_nl {nl : Str} : ∀ {ls : List Str}, ls ≠ [] → Str.join Str.empty (ls.map fun l => l ++ nl) = Str.join nl ls ++ nl
  | [], h => absurd rfl h
  | [x], _ => rfl
  | x :: y :: r, _ => by
    have z := join_nl (nl := nl) (ls := y :: r) (by simp)
    show (x ++ nl) ++ Str.empty ++ Str.join Str.empty ((y :: r).map fun l => l ++ nl) = (x ++ nl ++ Str.join nl (y :: r)) ++ nl
    rw [z, Str.append_assoc (x ++ nl) Str.empty, Str.empty_append]
    simp only [Str.append_assoc]
theorem join_last {nl : Str} : ∀ {ls : List Str}, ls ≠ [] → Str.join nl (ls ++ [Str.empty]) = Str.join nl ls ++ nl
  | [], h => absurd rfl h
  | [x], _ => by
    show x ++ nl ++ Str.empty = x ++ nl
    exact TL.ext_tl (by rw [TL.tl_append]; exact List.append_nil _)
  | x :: y :: r, _ => by
    have z := join_last (nl := nl) (ls := y :: r) (by simp)
    show (x ++ nl) ++ Str.join nl ((y :: r) ++ [Str.empty]) = (x ++ nl ++ Str.join nl (y :: r)) ++ nl
    rw [z]
    simp only [Str.append_assoc]
theorem linesM_eq (h : Int) (ss : List (Int × Int)) : linesM h ss = linesL h ss := by
  unfold linesM linesL headLn
  rw [Str.empty_append]
  refine congrArg _ ?_
  refine List.map_congr_left fun s _ => ?_
  unfold shipLn shipL2
  rw [Str.empty_append]
theorem textM_eq (h : Int) (ss : List (Int × Int)) : textM h ss = Txt.join "\n" (linesL h ss) ++ "\n" := by
  unfold textM
  rw [linesM_eq, TL.join_eq, TL.join_eq]
  show Str.join (Str.ofString "") _ = _
  rw [emptyS]
  exact join_nl (by unfold linesL; simp)
theorem textM_join (h : Int) (ss : List (Int × Int)) : textM h ss = Txt.join "\n" (linesL h ss ++ [Str.empty]) := by
  rw [textM_eq, TL.join_eq, TL.join_eq]
  exact (join_last (by unfold linesL; simp)).symm
end Ba

set_option maxHeartbeats 400000
namespace Ba
open PySem PySem.Spec PyProof.Rows L2
/-! ### parse_number -/
structure XTab (mg : Str → Option Value) : Prop where
  DIGITS : ∃ t, mg "DIGITS" = some (.str "0123456789" t)
  MAX_DIGITS : ∃ t, mg "MAX_DIGITS" = some (.int 5 t)
def isDig (c : Nat) : Bool := decide (48 ≤ c) && decide (c ≤ 57)
/-- what parse_number gives -/
def parseM (x : Str) (m : Int) : Option Int :=
  if decide (1 ≤ (x.length : Int)) && decide ((x.length : Int) ≤ m) && x.cps.toList.all isDig then
    (if x = "0" ∨ x.cps.toList.head? ≠ some 48 then some ((NumText.digitsVal x.cps.toList : Nat) : Int) else none)
  else none
theorem digM (c : Nat) : decide (c ∈ (Str.ofString "0123456789").cps.toList) = isDig c := by
  have e : (Str.ofString "0123456789").cps.toList = [48, 49, 50, 51, 52, 53, 54, 55, 56, 57] := by decide
  rw [e]
  unfold isDig
  rw [← Bool.decide_and, decide_eq_decide]
  simp only [List.mem_cons, List.not_mem_nil, or_false]
  omega
def optD : Option Int → PyData
  | some i => .int i
  | none => .none
section
variable {P : Program} {w : World} {K : PySem.W.Frag} {mg : Str → Option Value} {base : Heap} {f : Addr} {fd : FuncData}
def optV : Option Int → V
  | some i => .int i
  | none => .non
abbrev spParseN : Sp := Pr fun vs H Q _ => ∃ (x : Str) (m : Int), vs = [.str x, .int m] ∧ m ≤ 600 ∧ x.length ≤ sizeLine ∧ ∀ H', Kp [] H H' → Q (optV (parseM x m)) H'
theorem ok_parse_number (B : Bi mg) (XT : XTab mg) (F : FunS K "parse_number" "parse_number" s_parse_number [] [] f fd) (hm : mg "parse_number" = some (.ref f)) : DefOk P w K mg base "parse_number" 1 p_parse_number [] spParseN := by
  have S := sc_parse_number
  refine defOk F hm S (fun _ _ _ _ _ _ us hl => match us, hl with | [_, _], _ => rfl) (fun vs H Q E h => ?_) (fun cdv A outer s H vs Q E hr h => ?_)
  · obtain ⟨x, m, rfl, _⟩ := h
    rfl
  · obtain ⟨x, m, rfl, hm600, hxz, q⟩ := h
    refine ⟨_, (pss_cons (ps_if (PW.pt (pw_or (pt_not (pt_chain op_le op_le pe_int (pe_callB call_len_str (by rfl) B.len (by decide +kernel) (pa_cons (pv 0) pa_nil)) (pv 1))) (pw_or1 (pt_not (pt_val (pe_callB (cr_all rfl) (by rfl) B.all (by decide +kernel) (pa_cons (pe_lc (own := [("sign", 2)]) (g := (gName 2)) (tt := tYes) (by rfl) S.nd (pi_str (pv 0)) (blkOk_by (own := [("sign", 2)]) (N := n_parse_number) (sc := defScope s_parse_number) (by decide +kernel)) (fun _ _ _ _ _ => (pg_name (i := 2) S.nd rfl (Or.inl rfl))) (fun _ _ _ _ _ => pts_nil) (fun _ _ _ _ _ => (pe_cmpR op_in_sign (pv 2) (pe_gstr (z := "0123456789") (by rfl) XT.DIGITS) rfl))) pa_nil))))))) (pss_one (ps_ret pe_non)) pss_nil)
      (pss_one (ps_ret (pe_ifExp (PW.pt (pw_or (pt_cmpR op_eq (pv 0) pe_str (nomark _)) (pw_or1 (pt_cmpR op_ne (pe_ix ix_str (pv 0) pe_int (fun _ _ => rfl)) pe_str (nomark _))))) (pe_callTy call_int_str (by rfl) B.int (by decide +kernel) (pa_cons (pv 0) pa_nil)) pe_non)))), ?_⟩
    unfold parseM at q
    refine ⟨_, rfl, x, rfl, hxz, _, _, rfl, rfl, _, rfl, ?_⟩
    by_cases h1 : 1 ≤ (x.length : Int)
    · rw [decide_eq_true h1] at q ⊢
      refine ⟨_, rfl, _, _, rfl, rfl, _, rfl, ?_⟩
      by_cases h2 : (x.length : Int) ≤ m
      · rw [decide_eq_true h2] at q ⊢
        refine ⟨_, rfl, x, rfl, fun D hD => lc_data (walk_str (z := x)) (fun i => match x.cps.toList[i]? with | some c => [.bool (isDig c)] | none => []) hD (fun _ _ => trivial) ?_ ?_⟩
        · rintro i y H4 H5 hi L4 ⟨rfl, c, ec, rfl⟩
          refine ⟨wipe1 (by decide), _, rfl, c, _, rfl, rfl, ?_⟩
          exact L4.fin (d := .bool (isDig c)) (by have : (1000000:Nat) < 2000000 := by decide
                                                  have e : x.cps.size = x.length := rfl
                                                  omega) hD hi (Kp.refl _) (by rw [Array.getElem?_toList, ec]) (by rw [digM c]; exact .bl _)
        · intro H4 acc k4 hacc _ hT
          have hT : TpAll H4 acc ((x.cps.toList.map isDig).map .bool) := by
            have e : x.cps.size = x.cps.toList.length := by simp
            rw [e, flatMap_one x.cps.toList _ (fun c => PyData.bool (isDig c)) (fun i c e => by rw [e])] at hT
            rw [List.map_map]
            exact hT
          rw [tpAll_bls hT] at hacc
          have q2 := q H4 k4
          refine ⟨D, _, rfl, SqL.of hacc, _, rfl, ?_⟩
          have eall : (x.cps.toList.map isDig).all id = x.cps.toList.all isDig := by rw [List.all_map]; rfl
          rw [eall]
          cases ed : x.cps.toList.all isDig with
          | false =>
            rw [ed] at q2
            exact q2
          | true =>
            rw [ed] at q2
            have hne : x.cps.toList ≠ [] := fun z => by
              have e : x.length = x.cps.toList.length := by simp [Str.length]
              rw [z] at e
              simp at e
              omega
            have hlen : x.length ≤ 600 := by omega
            have ei : intText? x = some ((NumText.digitsVal x.cps.toList : Nat) : Int) := by
              have e : x.length = x.cps.toList.length := by simp [Str.length]
              have z := SX.int_S (a := x.cps.toList) ed hne (by omega)
              exact z
            refine ⟨_, rfl, rfl, _, rfl, ?_⟩
            by_cases hx0 : x = "0"
            · rw [decide_eq_true (congrArg V.str hx0)]
              have q3 : Q (optV (if x = "0" ∨ x.cps.toList.head? ≠ some 48 then some ((NumText.digitsVal x.cps.toList : Nat) : Int) else none)) H4 := q2
              rw [if_pos (.inl hx0)] at q3
              exact ⟨_, rfl, x, _, rfl, ei, by omega, q3⟩
            · rw [decide_eq_false (fun z => hx0 (by injection z))]
              have q3 : Q (optV (if x = "0" ∨ x.cps.toList.head? ≠ some 48 then some ((NumText.digitsVal x.cps.toList : Nat) : Int) else none)) H4 := q2
              cases ex : x.cps.toList with
              | nil => exact absurd ex hne
              | cons c r =>
                refine ⟨_, rfl, x, 0, c, rfl, rfl, hxz, by rw [ex]; unfold atI ixN; simp, rfl, _, rfl, ?_⟩
                by_cases hc : c = 48
                · have e0 : (V.str ⟨#[c]⟩ = V.str (Str.ofString "0")) := by rw [hc]; exact congrArg V.str (by decide)
                  rw [ex, if_neg (by rintro (z | z)
                                     · exact hx0 z
                                     · exact z (by rw [hc]; rfl))] at q3
                  rw [decide_eq_true e0]
                  exact q3
                · have e0 : ¬ (V.str ⟨#[c]⟩ = V.str (Str.ofString "0")) := fun z => hc (by
                    injection z with z
                    have z2 := congrArg (fun s : Str => s.cps.toList.head?) z
                    have e48 : (Str.ofString "0").cps.toList.head? = some 48 := by decide
                    have z3 : some c = (Str.ofString "0").cps.toList.head? := z2
                    rw [e48] at z3
                    injection z3)
                  rw [if_pos (.inr (by rw [ex]; intro z; exact hc (by injection z)))] at q3
                  rw [decide_eq_false e0]
                  exact ⟨_, rfl, x, _, rfl, ei, by omega, q3⟩
      · rw [decide_eq_false h2] at q ⊢
        exact q H (Kp.refl _)
    · rw [decide_eq_false h1] at q ⊢
      exact ⟨_, rfl, q H (Kp.refl _)⟩
end
end Ba

set_option maxHeartbeats 400000
namespace Ba
open PySem PySem.Spec PyProof.Rows L2
/-! ### parse_line -/
def numsM (ws : List Str) : List (Option Int) := ws.map fun x => parseM x 5
/-- what parse_line gives -/
def lineM (x kw : Str) (n : Int) : Option (List Int) :=
  match Txt.split x " " with
  | [] => none
  | f :: r => if f ≠ kw ∨ ((numsM r).length : Int) ≠ n ∨ none ∈ numsM r then none else some ((numsM r).filterMap id)
def lineD : Option (List Int) → PyData
  | none => .none
  | some ns => .tuple (ns.map .int)
theorem spl_ne (S : List Nat) : ∀ (L : List Nat) (k : Nat) (acc : List Nat), TL.spl S k acc L ≠ []
  | [], k, acc => by rw [TL.spl_nil]; simp
  | c :: r, 0, acc => by
    unfold TL.spl
    by_cases h : TL.pre S (c :: r) = true
    · rw [if_pos h]; simp
    · rw [if_neg h]; exact spl_ne S r 0 _
  | _ :: r, k + 1, acc => by
    unfold TL.spl
    exact spl_ne S r k acc
theorem split_ne {x y : Str} (hy : TL.tl y ≠ []) (hk : y.cps.all (· < 256) = true) : Txt.split x y ≠ [] := fun e => by
  have z := TL.split_spl x y hy (TL.kind_ok hk)
  rw [e] at z
  exact spl_ne _ _ _ _ z.symm
theorem spl_sz (S : List Nat) : ∀ (L : List Nat) (k : Nat) (acc : List Nat), (∀ p ∈ TL.spl S k acc L, p.length ≤ acc.length + L.length) ∧ (TL.spl S k acc L).length ≤ L.length + 1
  | [], k, acc => by rw [TL.spl_nil]; exact ⟨fun p hp => by rw [List.mem_singleton.mp hp]; simp, by simp⟩
  | c :: r, 0, acc => by
    unfold TL.spl
    by_cases h : TL.pre S (c :: r) = true
    · rw [if_pos h]
      obtain ⟨a, b⟩ := spl_sz S r (S.length - 1) []
      refine ⟨fun p hp => ?_, by simp only [List.length_cons]; omega⟩
      rcases List.mem_cons.mp hp with rfl | hp
      · omega
      · have := a p hp
        simp only [List.length_cons, List.length_nil] at this ⊢
        omega
    · rw [if_neg h]
      obtain ⟨a, b⟩ := spl_sz S r 0 (acc ++ [c])
      refine ⟨fun p hp => ?_, by simp only [List.length_cons]; omega⟩
      have := a p hp
      simp only [List.length_append, List.length_cons, List.length_nil] at this ⊢
      omega
  | c :: r, k + 1, acc => by
    unfold TL.spl
    obtain ⟨a, b⟩ := spl_sz S r k acc
    refine ⟨fun p hp => ?_, by simp only [List.length_cons]; omega⟩
    have := a p hp
    simp only [List.length_cons]
    omega
theorem split_sz {x y : Str} (hy : TL.tl y ≠ []) (hk : y.cps.all (· < 256) = true) : (∀ p ∈ Txt.split x y, p.length ≤ x.length) ∧ (Txt.split x y).length ≤ x.length + 1 := by
  have z := TL.split_spl x y hy (TL.kind_ok hk)
  obtain ⟨a, b⟩ := spl_sz (TL.tl y) (TL.tl x) 0 []
  refine ⟨fun p hp => ?_, ?_⟩
  · have := a (TL.tl p) (by rw [← z]; exact List.mem_map.mpr ⟨p, hp, rfl⟩)
    rw [TL.len_tl, TL.len_tl]
    simpa using this
  · rw [← z, List.length_map] at b
    rw [TL.len_tl]
    exact b
theorem lineM_eq {x kw f1 : Str} {r : List Str} {n : Int} (h : Txt.split x " " = f1 :: r) : lineM x kw n = if f1 ≠ kw ∨ ((numsM r).length : Int) ≠ n ∨ none ∈ numsM r then none else some ((numsM r).filterMap id) := by
  unfold lineM
  rw [h]
theorem opt_all {os : List (Option Int)} (h : none ∉ os) : os.map optV = (os.filterMap id).map V.int := by
  induction os with
  | nil => rfl
  | cons o os ih =>
    cases o with
    | none => exact absurd (List.mem_cons_self ..) h
    | some i =>
      rw [List.map_cons, ih (fun z => h (List.mem_cons_of_mem _ z))]
      rfl
theorem opt_any (os : List (Option Int)) : (os.map optD).any (fun z => PyData.eqv z .none) = decide (none ∈ os) := by
  induction os with
  | nil => rfl
  | cons o os ih =>
    rw [List.map_cons, List.any_cons, ih]
    cases o with
    | none => simp [optD, PyData.eqv]
    | some i => simp [optD, PyData.eqv]
theorem can_opts : ∀ os : List (Option Int), PyData.canLayAll0 (os.map optD) = true
  | [] => rfl
  | o :: os => by
    rw [List.map_cons]
    show (PyData.canLay0 (optD o) && PyData.canLayAll0 (os.map optD)) = true
    rw [can_opts os]
    cases o <;> rfl
theorem depth_opts : ∀ os : List (Option Int), PyData.depthAll (os.map optD) = 0
  | [] => rfl
  | o :: os => by
    rw [List.map_cons]
    show max (optD o).depth (PyData.depthAll (os.map optD)) = 0
    rw [depth_opts os]
    cases o <;> rfl
theorem shaped_opts (os : List (Option Int)) : SeqAt.shaped (.list (os.map optD)) = true := by
  show (PyData.canLayAll0 (os.map optD) && decide (PyData.depthAll (os.map optD) + 1 ≤ 64)) = true
  rw [can_opts, depth_opts]
  rfl
theorem optV_vs {H : Hp} : ∀ {acc : List V} {os : List (Option Int)}, TpAll H acc (os.map optD) → acc = os.map optV
  | _, [], h => by cases h; rfl
  | acc, o :: os, h => by
    rw [List.map_cons] at h
    obtain ⟨v, vr, rfl, h1, h2⟩ := tpAll_cons h
    rw [optV_vs h2, List.map_cons]
    cases o with
    | none => cases h1; rfl
    | some i => cases h1; rfl
theorem tp_opt {H : Hp} (o : Option Int) : Tp H (optV o) (optD o) := by
  cases o with
  | none => exact .non
  | some i => exact .int i
section
variable {P : Program} {w : World} {K : PySem.W.Frag} {mg : Str → Option Value} {base : Heap} {f : Addr} {fd : FuncData}
abbrev spParseL : Sp := Pr fun vs H Q _ => ∃ (x kw : Str) (n : Int), vs = [.str x, .str kw, .int n] ∧ x.length ≤ 1000000 ∧
  ∀ u H', Kp [] H H' → Tp H' u (lineD (lineM x kw n)) → Q u H'
theorem ok_parse_line (B : Bi mg) (XT : XTab mg) (D_parse_number : DefOk P w K mg base "parse_number" 1 p_parse_number [] spParseN) (F : FunS K "parse_line" "parse_line" s_parse_line [] [] f fd) (hm : mg "parse_line" = some (.ref f)) : DefOk P w K mg base "parse_line" 2 p_parse_line [] spParseL := by
  have S := sc_parse_line
  refine defOk F hm S (fun _ _ _ _ _ _ us hl => match us, hl with | [_, _, _], _ => rfl) (fun vs H Q E h => ?_) (fun cdv A outer s H vs Q E hr h => ?_)
  · obtain ⟨x, kw, n, rfl, _⟩ := h
    rfl
  · obtain ⟨x, kw, n, rfl, hxl, q⟩ := h
    have q1 : lineM x kw n = none → ∀ H', Kp [] H H' → Q .non H' := fun e H' k => q _ H' k (by rw [e]; exact .non)
    have q2 : ∀ ns, lineM x kw n = some ns → ∀ (p : Addr) H', H p = none → Kp [] H H' → H' p = some (.tup (ns.map V.int)) → Q (.ref p) H' := fun ns e p H' _ k ep => q _ H' k (by rw [e]; exact .tup ep tpAll_of_ints)
    refine ⟨_, (pss_cons (ps_asg (pe_split (pv 0) pe_str) (pg_star (n := 2) (i := 1) rfl (pgs_cons (pg_name (i := 3) S.nd rfl (Or.inl rfl)) (pgs_star (pg_name (i := 4) S.nd rfl (Or.inl rfl)) pgs_nil))))
      (pss_cons (ps_setLc (i := 5) (own := [("word", 6)]) (g := (gName 6)) (tt := tYes) rfl S.nd rfl rfl (sw_true rfl rfl rfl (by decide +kernel)) (pi_list (pv 4)) (blkOk_by (own := [("word", 6)]) (N := n_parse_line) (sc := defScope s_parse_line) (by decide +kernel)) (fun _ _ _ _ _ => (pg_name (i := 6) S.nd rfl (Or.inl rfl))) (fun _ _ _ _ _ => pts_nil) (fun _ _ _ _ _ => (pe_fn D_parse_number (hr.mono (by decide)) passLB rfl (pa_cons (pv 6) (pa_cons (pe_gint (i := 5) (by rfl) XT.MAX_DIGITS) pa_nil)))))
      (pss_one (ps_ret (pe_ifExp (PW.pt (pw_or (pt_cmpR op_ne (pv 3) (pv 1) (nomark _)) (pw_or (pt_cmpR op_ne (pe_callB call_len_seq (by rfl) B.len (by decide +kernel) (pa_cons (pv 5) pa_nil)) (pv 2) (nomark _)) (pw_or1 (pt_cmpR (op_inD (room65 hr)) pe_non (pv 5) (by with_unfolding_all rfl)))))) pe_non (pe_callTy call_tuple_of (by rfl) B.tuple (by decide +kernel) (pa_cons (pv 5) pa_nil))))))), ?_⟩
    have hsz : (2000000 : Nat) ≤ sizeLine := by decide
    refine ⟨_, rfl, ⟨_, rfl⟩, x, _, rfl, rfl, by decide, by omega, fun p hp => ?_⟩
    obtain ⟨f1, r, er⟩ : ∃ f1 r, Txt.split x " " = f1 :: r := by
      cases z : Txt.split x " " with
      | nil => exact absurd z (split_ne (by decide) (by decide +kernel))
      | cons a b => exact ⟨a, b, rfl⟩
    rw [lineM_eq er] at q1 q2
    obtain ⟨hw, hnr⟩ := split_sz (x := x) (y := " ") (by decide) (by decide +kernel)
    rw [er] at hw hnr
    have e1 : (upd H p (.lst ((Txt.split x " ").map V.str))) p = some (.lst (.str f1 :: r.map V.str)) := by rw [er]; exact upd_same
    have k1 : Kp [] H (upd H p (.lst ((Txt.split x " ").map V.str))) := Kp.new hp
    generalize upd H p (.lst ((Txt.split x " ").map V.str)) = H1 at e1 k1 ⊢
    refine ⟨p, _, rfl, SqL.of e1, by simp, fun D hD => ⟨_, _, rfl, _, _, rfl, by simp, ?_⟩⟩
    have e2 : (upd H1 D (.lst (((V.str f1 :: r.map V.str).drop 1).take ((V.str f1 :: r.map V.str).length + 1 - 2)))) D = some (.lst (r.map V.str)) := by
      rw [upd_same, List.drop_one, List.tail_cons, List.take_of_length_le (by simp)]
    have k2 := k1.trans (Kp.new hD (o := .lst (((V.str f1 :: r.map V.str).drop 1).take ((V.str f1 :: r.map V.str).length + 1 - 2))))
    generalize upd H1 D (.lst (((V.str f1 :: r.map V.str).drop 1).take ((V.str f1 :: r.map V.str).length + 1 - 2))) = H2 at e2 k2 ⊢
    rw [List.length_cons] at hnr
    refine ⟨_, rfl, D, rfl, ⟨_, SqL.of e2⟩, fun L hL => lc_data (walk_list (K := K) (a := D) (xs := r.map V.str)) (fun i => match r[i]? with | some w => [optD (parseM w 5)] | none => []) hL (fun H4 k4 => SqL.of (k4.keep _ _ e2 (by simp))) ?_ ?_⟩
    · rintro i y H4 H5 hi L4 ⟨rfl, hx2⟩
      obtain ⟨w, ew, rfl⟩ : ∃ w, r[i]? = some w ∧ y = V.str w := by
        rw [List.getElem?_map] at hx2
        cases e : r[i]? with
        | none => rw [e] at hx2; cases hx2
        | some w => rw [e] at hx2; cases hx2; exact ⟨w, rfl, rfl⟩
      have hwl := hw w (List.mem_cons_of_mem _ (List.mem_of_getElem? ew))
      refine ⟨wipe1 (by decide), _, rfl, w, 5, rfl, by decide, by omega, fun H6 k6 => ?_⟩
      exact L4.fin (d := optD (parseM w 5)) (by rw [List.length_map]; omega) hL hi k6 (by rw [ew]) (tp_opt _)
    · intro H4 acc k4 hacc _ hT
      rw [List.length_map, flatMap_one r _ (fun w => optD (parseM w 5)) (fun i x e => by rw [e])] at hT
      have hT : TpAll H4 acc ((numsM r).map optD) := by
        unfold numsM
        rw [List.map_map]
        exact hT
      have kk := k2.trans k4
      have em : (numsM r).length = acc.length := by rw [hT.length, List.length_map]
      refine ⟨_, rfl, _, rfl, rfl, _, rfl, ?_⟩
      by_cases c1 : f1 = kw
      · refine iteF' (by rw [decide_eq_true (congrArg V.str c1)]; rfl) ?_
        refine ⟨_, rfl, L, acc, rfl, .inl (SqL.of hacc), _, rfl, rfl, _, rfl, ?_⟩
        by_cases c2 : (acc.length : Int) = n
        · refine iteF' (by rw [decide_eq_true (congrArg V.int c2)]; rfl) ?_
          refine ⟨_, rfl, .none, (numsM r).map optD, .non, .lst (SqL.of hacc) (TpAll.dp _ _ hT), by decide, shaped_opts _, _, rfl, ?_⟩
          rw [opt_any]
          by_cases c3 : none ∈ numsM r
          · refine iteT' (decide_eq_true c3) ?_
            exact q1 (if_pos (.inr (.inr c3))) H4 kk
          · refine iteF' (decide_eq_false c3) ?_
            refine ⟨_, rfl, L, acc, rfl, .inl ⟨SqL.of hacc, fun T hT4 => ?_⟩⟩
            have kT := Kp.new (S := []) hT4 (o := .tup acc)
            refine q2 _ (if_neg (by rintro (z | z | z); exact z c1; exact z (by rw [em]; exact c2); exact c3 z)) T _ (kk.free hT4) (kk.trans kT) ?_
            rw [upd_same, optV_vs hT, opt_all c3]
        · refine iteT' (by rw [decide_eq_false (fun z => c2 (V.int.inj z))]; rfl) ?_
          exact q1 (if_pos (.inr (.inl (by rw [em]; exact c2)))) H4 kk
      · refine iteT' (by rw [decide_eq_false (fun z => c1 (V.str.inj z))]; rfl) ?_
        exact q1 (if_pos (.inl c1)) H4 kk
end
end Ba

set_option maxHeartbeats 400000
namespace Ba
open PySem PySem.Spec PyProof.Rows L2
/-! ### a valid text is read back -/
theorem numL_head {m : Nat} (h : 0 < m) : (TL.numL m).head? ≠ some 48 := by
  induction m using Nat.strongRecOn with
  | _ m ih =>
    by_cases h10 : m < 10
    · rw [TL.numL_lt h10]
      intro z
      injection z with z
      omega
    · rw [TL.numL_step (by omega)]
      have e := TL.numL_ne (m / 10)
      have r := ih (m / 10) (by omega) (by omega)
      cases z : TL.numL (m / 10) with
      | nil => exact absurd z e
      | cons a b =>
        rw [z] at r
        exact r
theorem parseM_num {i : Int} (h0 : 0 ≤ i) (h1 : i ≤ 99999) : parseM (Str.ofString (toString i)) 5 = some i := by
  obtain ⟨m, rfl⟩ := Int.eq_ofNat_of_zero_le h0
  have et : (Str.ofString (toString ((m : Nat) : Int))).cps.toList = TL.numL m := TL.tl_num m
  have el : (Str.ofString (toString ((m : Nat) : Int))).length = (TL.numL m).length := by rw [TL.len_tl]; exact congrArg _ et
  have hl := TL.numL_len (n := m) (k := 5) (by decide) (by omega)
  have hl1 : 1 ≤ (TL.numL m).length := by
    have := TL.numL_ne m
    cases z : TL.numL m with
    | nil => exact absurd z this
    | cons a b => simp
  unfold parseM
  rw [et, el]
  have ea : (TL.numL m).all isDig = true := by
    rw [List.all_eq_true]
    intro c hc
    have := TL.numL_digits m c hc
    unfold isDig
    rw [decide_eq_true this.1, decide_eq_true this.2]
    rfl
  rw [ea, decide_eq_true (show (1 : Int) ≤ ((TL.numL m).length : Int) by omega), decide_eq_true (show ((TL.numL m).length : Int) ≤ 5 by omega)]
  show (if _ then some ((NumText.digitsVal (TL.numL m) : Nat) : Int) else none) = _
  rw [TL.numL_val]
  refine if_pos ?_
  rcases Nat.eq_zero_or_pos m with rfl | hm
  · left
    decide
  · right
    exact numL_head hm
theorem tl_num' {i : Int} (h0 : 0 ≤ i) : ∃ m, (Str.ofString (toString i)).cps.toList = TL.numL m := by
  obtain ⟨m, rfl⟩ := Int.eq_ofNat_of_zero_le h0
  exact ⟨m, TL.tl_num m⟩
theorem num_free {i : Int} (h0 : 0 ≤ i) {s : Nat} (h : s < 48 ∨ 57 < s) : s ∉ TL.tl (Str.ofString (toString i)) := by
  obtain ⟨m, e⟩ := tl_num' h0
  show s ∉ (Str.ofString (toString i)).cps.toList
  rw [e]
  exact TL.numL_free h
theorem lineM_head {h : Int} (h0 : 0 ≤ h) (h1 : h ≤ 99999) : lineM ("hours " ++ toString h) "hours" 1 = some [h] := by
  have e : Txt.split ("hours " ++ toString h) " " = ([Str.ofString "hours", Str.ofString (toString h)] : List Str) := by
    have e1 : ("hours " ++ toString h : Str) = Txt.join " " ([Str.ofString "hours", Str.ofString (toString h)] : List Str) := by
      rw [TL.join_eq]
      show ("hours " : Str) ++ Str.ofString (toString h) = "hours" ++ " " ++ Str.ofString (toString h)
      have : ("hours" ++ " " : Str) = "hours " := by decide
      rw [this]
    rw [e1]
    refine TL.split_join (s := 32) (S := []) (by decide) (by decide +kernel) (by simp) fun p hp => ?_
    have hp : p = "hours" ∨ p = Str.ofString (toString h) := by simpa using hp
    rcases hp with rfl | rfl
    · decide
    · exact num_free h0 (by decide)
  unfold lineM
  rw [e]
  show (if ("hours" : Str) ≠ "hours" ∨ ((numsM [Str.ofString (toString h)]).length : Int) ≠ 1 ∨ none ∈ numsM [Str.ofString (toString h)] then none else some ((numsM [Str.ofString (toString h)]).filterMap id)) = some [h]
  have en : numsM [Str.ofString (toString h)] = [some h] := by
    unfold numsM
    rw [List.map_cons, parseM_num h0 h1]
    rfl
  rw [en]
  simp
theorem lineM_ship {s : Int × Int} (h0 : 0 ≤ s.1) (h1 : s.1 ≤ 99999) (h2 : 0 ≤ s.2) (h3 : s.2 ≤ 99999) : lineM (shipL2 s) "ship" 2 = some [s.1, s.2] := by
  have e : Txt.split (shipL2 s) " " = ([Str.ofString "ship", Str.ofString (toString s.1), Str.ofString (toString s.2)] : List Str) := by
    have e1 : shipL2 s = Txt.join " " ([Str.ofString "ship", Str.ofString (toString s.1), Str.ofString (toString s.2)] : List Str) := by
      rw [TL.join_eq]
      unfold shipL2
      show ("ship " : Str) ++ Str.ofString (toString s.1) ++ " " ++ Str.ofString (toString s.2) = "ship" ++ " " ++ (Str.ofString (toString s.1) ++ " " ++ Str.ofString (toString s.2))
      have : ("ship" ++ " " : Str) = "ship " := by decide
      rw [this]
      simp only [Str.append_assoc]
    rw [e1]
    refine TL.split_join (s := 32) (S := []) (by decide) (by decide +kernel) (by simp) fun p hp => ?_
    have hp : p = "ship" ∨ p = Str.ofString (toString s.1) ∨ p = Str.ofString (toString s.2) := by simpa using hp
    rcases hp with rfl | rfl | rfl
    · decide
    · exact num_free h0 (by decide)
    · exact num_free h2 (by decide)
  unfold lineM
  rw [e]
  have en : numsM [Str.ofString (toString s.1), Str.ofString (toString s.2)] = [some s.1, some s.2] := by
    unfold numsM
    rw [List.map_cons, List.map_cons, parseM_num h0 h1, parseM_num h2 h3]
    rfl
  show (if ("ship" : Str) ≠ "ship" ∨ ((numsM [Str.ofString (toString s.1), Str.ofString (toString s.2)]).length : Int) ≠ 2 ∨ none ∈ numsM [Str.ofString (toString s.1), Str.ofString (toString s.2)] then none else some ((numsM [Str.ofString (toString s.1), Str.ofString (toString s.2)]).filterMap id)) = some [s.1, s.2]
  rw [en]
  simp
/-- what read_table gives -/
def readM (t : Str) : Option PyData :=
  if (Txt.split t "\n").dropLast = [] ∨ (Txt.split t "\n").getLast? ≠ some (Str.ofString "") then none
  else match lineM ((Txt.split t "\n").dropLast.headD "") "hours" 1 with
    | none => none
    | some hs =>
      if none ∈ (Txt.split t "\n").dropLast.tail.map (fun l => lineM l "ship" 2) then none
      else if isTableD (.tuple [.int (hs.headD 0), .tuple ((Txt.split t "\n").dropLast.tail.map fun l => lineD (lineM l "ship" 2))]) = true then
        some (.tuple [.int (hs.headD 0), .tuple ((Txt.split t "\n").dropLast.tail.map fun l => lineD (lineM l "ship" 2))])
      else none
theorem nl_free {h : Int} {ss : List (Int × Int)} (tv : TabV h ss) : ∀ p ∈ linesL h ss ++ [Str.empty], 10 ∉ TL.tl p := by
  intro p hp
  have hp : p = "hours " ++ toString h ∨ (∃ s ∈ ss, shipL2 s = p) ∨ p = Str.empty := by
    simpa [linesL] using hp
  have h1 := tv.h1
  rcases hp with rfl | ⟨s, hs, rfl⟩ | rfl
  · have e : TL.tl ("hours " ++ toString h : Str) = TL.tl "hours " ++ TL.tl (Str.ofString (toString h)) := TL.tl_append _ _
    rw [e, List.mem_append]
    rintro (z | z)
    · revert z; decide
    · exact num_free (by omega) (by decide) z
  · obtain ⟨s0, s1, s2, s3⟩ := tv.sh s hs
    have e : TL.tl (shipL2 s) = TL.tl "ship " ++ TL.tl (Str.ofString (toString s.1)) ++ TL.tl " " ++ TL.tl (Str.ofString (toString s.2)) := by
      rw [← TL.tl_append, ← TL.tl_append, ← TL.tl_append]
      rfl
    rw [e, List.mem_append, List.mem_append, List.mem_append]
    rintro (((z | z) | z) | z)
    · revert z; decide
    · exact num_free (by omega) (by decide) z
    · revert z; decide
    · exact num_free (by omega) (by decide) z
  · decide
theorem split_text {h : Int} {ss : List (Int × Int)} (tv : TabV h ss) : Txt.split (textM h ss) "\n" = linesL h ss ++ [Str.empty] := by
  rw [textM_join]
  exact TL.split_join (s := 10) (S := []) (by decide) (by decide +kernel) (by simp) (nl_free tv)
theorem readM_text {h : Int} {ss : List (Int × Int)} (tv : TabV h ss) (hp : peakM h ss ≤ 60) : readM (textM h ss) = some (tbD h ss) := by
  unfold readM
  rw [split_text tv, List.dropLast_concat, List.getLast?_concat]
  have h1 := tv.h1
  have h2 := tv.h2
  have e1 : (linesL h ss).headD "" = "hours " ++ toString h := rfl
  have e2 : (linesL h ss).tail = ss.map shipL2 := rfl
  have e3 : (ss.map shipL2).map (fun l => lineM l "ship" 2) = ss.map fun s => some [s.1, s.2] := by
    rw [List.map_map]
    refine List.map_congr_left fun s hs => ?_
    obtain ⟨s0, s1, s2, s3⟩ := tv.sh s hs
    exact lineM_ship (by omega) (by omega) (by omega) (by omega)
  have e4 : ((ss.map shipL2).map fun l => lineD (lineM l "ship" 2)) = ss.map shD := by
    rw [List.map_map]
    refine List.map_congr_left fun s hs => ?_
    obtain ⟨s0, s1, s2, s3⟩ := tv.sh s hs
    show lineD (lineM (shipL2 s) "ship" 2) = _
    rw [lineM_ship (by omega) (by omega) (by omega) (by omega)]
    rfl
  rw [e1, e2, e3, e4, lineM_head (by omega) (by omega)]
  have hn : ¬ (linesL h ss = [] ∨ some Str.empty ≠ some (Str.ofString "")) := by
    rintro (z | z)
    · exact absurd z (by unfold linesL; simp)
    · exact z (by decide)
  rw [if_neg hn]
  show (if none ∈ ss.map (fun s => some [s.1, s.2]) then none else if isTableD (tbD h ss) = true then some (tbD h ss) else none) = some (tbD h ss)
  rw [if_neg (by simp), if_pos]
  unfold isTableD
  rw [isShapeD_tb tv, tabOf_tb, decide_eq_true hp]
  rfl
end Ba

set_option maxHeartbeats 400000
namespace Ba
open PySem PySem.Spec PyProof.Rows L2
/-! ### read_table -/
theorem can_ints : ∀ ns : List Int, PyData.canLayAll0 (ns.map .int) = true
  | [] => rfl
  | n :: ns => by
    rw [List.map_cons]
    show (PyData.canLay0 (.int n) && PyData.canLayAll0 (ns.map .int)) = true
    rw [can_ints ns]
    rfl
theorem can_lines : ∀ os : List (Option (List Int)), PyData.canLayAll0 (os.map lineD) = true
  | [] => rfl
  | o :: os => by
    rw [List.map_cons]
    show (PyData.canLay0 (lineD o) && PyData.canLayAll0 (os.map lineD)) = true
    rw [can_lines os, Bool.and_true]
    cases o with
    | none => rfl
    | some ns => exact can_ints ns
theorem depth_lines : ∀ os : List (Option (List Int)), PyData.depthAll (os.map lineD) ≤ 1
  | [] => by decide
  | o :: os => by
    rw [List.map_cons]
    show max (lineD o).depth (PyData.depthAll (os.map lineD)) ≤ 1
    have h := depth_lines os
    have h2 : (lineD o).depth ≤ 1 := by
      cases o with
      | none => decide
      | some ns =>
        show PyData.depthAll (ns.map .int) + 1 ≤ 1
        rw [depth_int]
        decide
    omega
theorem shaped_lines (os : List (Option (List Int))) : SeqAt.shaped (.list (os.map lineD)) = true := by
  show (PyData.canLayAll0 (os.map lineD) && decide (PyData.depthAll (os.map lineD) + 1 ≤ 64)) = true
  have := depth_lines os
  rw [can_lines, decide_eq_true (show PyData.depthAll (os.map lineD) + 1 ≤ 64 by omega)]
  rfl
theorem any_lines (os : List (Option (List Int))) : (os.map lineD).any (fun z => PyData.eqv z .none) = decide (none ∈ os) := by
  induction os with
  | nil => rfl
  | cons o os ih =>
    rw [List.map_cons, List.any_cons, ih]
    cases o with
    | none => simp [lineD, PyData.eqv]
    | some i => simp [lineD, PyData.eqv]
theorem dp_strs {K : PySem.W.Frag} {H : Hp} : ∀ ls : List Str, DpAll K H (ls.map V.str) (ls.map PyData.str)
  | [] => .nil
  | n :: ns => .cons (.str n) (dp_strs ns)
theorem plain_strs : ∀ ls : List Str, PyData.plainAll (ls.map .str) = true
  | [] => rfl
  | l :: ls => plain_strs ls
theorem depth_strs : ∀ ls : List Str, PyData.depthAll (ls.map .str) = 0
  | [] => rfl
  | l :: ls => by
    rw [List.map_cons]
    show max 0 (PyData.depthAll (ls.map .str)) = 0
    rw [depth_strs ls]
    rfl
theorem eqv_nilS (l : List Str) : PyData.eqv (.list (l.map .str)) (.list []) = l.isEmpty := by cases l <;> rfl
theorem readM_eq {z : Str} {lines : List Str} {last : Str} (h : Txt.split z "\n" = lines ++ [last]) : readM z =
    if lines = [] ∨ last ≠ "" then none
    else match lineM (lines.headD "") "hours" 1 with
      | none => none
      | some hs => if none ∈ lines.tail.map (fun l => lineM l "ship" 2) then none
        else if isTableD (.tuple [.int (hs.headD 0), .tuple ((lines.tail.map fun l => lineM l "ship" 2).map lineD)]) = true then some (.tuple [.int (hs.headD 0), .tuple ((lines.tail.map fun l => lineM l "ship" 2).map lineD)]) else none := by
  unfold readM
  rw [h, List.dropLast_concat, List.getLast?_concat, List.map_map]
  have e : (lines = [] ∨ some last ≠ some (Str.ofString "")) = (lines = [] ∨ last ≠ "") := by
    rw [ne_eq, ne_eq, Option.some.injEq]
  simp only [e]
  rfl
theorem cut_tail (v : V) (vs : List V) : cutV (v :: vs) (some 1) none = vs := by
  have e : HT.sIx (v :: vs).length 0 (some 1) = 1 := by
    show min 1 (vs.length + 1) = 1
    omega
  unfold cutV
  rw [e, HT.sIx_none]
  rw [List.drop_one, List.tail_cons]
  exact List.take_of_length_le (by simp)
theorem lines_at {ls : List Str} {i : Nat} {y : V} (h : (ls.map V.str)[i]? = some y) : ∃ w, ls[i]? = some w ∧ y = V.str w := by
  rw [List.getElem?_map] at h
  cases e : ls[i]? with
  | none => rw [e] at h; cases h
  | some w => rw [e] at h; cases h; exact ⟨w, rfl, rfl⟩
theorem lineM_len {x kw : Str} {n : Int} {ns : List Int} (h : lineM x kw n = some ns) : (ns.length : Int) = n := by
  cases e : Txt.split x " " with
  | nil => unfold lineM at h; rw [e] at h; cases h
  | cons f r =>
    rw [lineM_eq e] at h
    split at h
    · cases h
    · rename_i c
      injection h with h
      rw [← h]
      have c3 : none ∉ numsM r := fun z => c (.inr (.inr z))
      have := congrArg List.length (opt_all c3)
      rw [List.length_map, List.length_map] at this
      rw [← this]
      exact Decidable.of_not_not fun z => c (.inr (.inl z))
section
variable {P : Program} {w : World} {K : PySem.W.Frag} {mg : Str → Option Value} {base : Heap} {f : Addr} {fd : FuncData}
abbrev spRead (K : PySem.W.Frag) (CX : Addr) : Sp := Pr fun vs H Q E => ∃ v, vs = [v] ∧ ((∃ t, TyX K H v (.type t) ∧ kitB t "str" = some false ∧ E (.ref CX) none H) ∨
  ∃ z : Str, v = .str z ∧ z.length ≤ 1000000 ∧ (readM z = none → ∀ H', Kp [] H H' → E (.ref CX) none H') ∧ (∀ d, readM z = some d → ∀ u H', Kp [] H H' → Tp H' u d → Q u H'))
theorem ok_read_table {CX : Addr} (B : Bi mg) (E_NoText : ExcOk K mg "NoText" CX) (D_parse_line : DefOk P w K mg base "parse_line" 2 p_parse_line [] spParseL) (D_is_table : DefOk P w K mg base "is_table" 4 p_is_table [] (spIsTable K))
    (F : FunS K "read_table" "read_table" s_read_table [] [] f fd) (hm : mg "read_table" = some (.ref f)) : DefOk P w K mg base "read_table" 5 p_read_table [] (spRead K CX) := by
  have S := sc_read_table
  refine defOk F hm S (fun _ _ _ _ _ _ us hl => match us, hl with | [_], _ => rfl) (fun vs H Q E h => ?_) (fun cdv A outer s H vs Q E hr h => ?_)
  · obtain ⟨v, rfl, _⟩ := h
    rfl
  · obtain ⟨v, rfl, h⟩ := h
    refine ⟨_, (pss_cons (ps_if (pt_not (pt_val (pe_callB call_isA (by rfl) B.isinstance (by decide +kernel) (pa_cons (pv 0) (pa_cons (pe_bltn (v := .ty "str") (by rfl) B.str (by decide +kernel) rfl) pa_nil))))) (pss_one (L2N.ps_raise rfl takesB (L2N.pmk_own PySem.F.excBase_ValueError E_NoText.x E_NoText.g E_NoText.k (raises_own E_NoText.e E_NoText.t) (by exact rfl)))) pss_nil)
      (pss_cons (ps_asg (pe_split (pv 0) pe_str) (pg_star (n := 2) (i := 0) rfl (pgs_star (pg_name (i := 1) S.nd rfl (Or.inl rfl)) (pgs_cons (pg_name (i := 2) S.nd rfl (Or.inl rfl)) pgs_nil))))
      (pss_cons (ps_if (PW.pt (pw_or (pt_cmpR (op_eqP hr.units) (pv 1) (pe_lst pa_nil) (nomark _)) (pw_or1 (pt_cmpR op_ne (pv 2) pe_str (nomark _))))) (pss_one (L2N.ps_raise rfl takesB (L2N.pmk_own PySem.F.excBase_ValueError E_NoText.x E_NoText.g E_NoText.k (raises_own E_NoText.e E_NoText.t) (by exact rfl)))) pss_nil)
      (pss_cons (ps_set (i := 3) S.nd rfl (Or.inl rfl) (pe_fn D_parse_line (hr.mono (by decide)) passLB rfl (pa_cons (pe_ix ix_list (pv 1) pe_int (fun _ _ => rfl)) (pa_cons pe_str (pa_cons pe_int pa_nil)))))
      (pss_cons (ps_setLc (i := 4) (own := [("line", 5)]) (g := (gName 5)) (tt := tYes) rfl S.nd rfl rfl (sw_true rfl rfl rfl (by decide +kernel)) (pi_list (pe_slice sl_list (pv 1) (po_some pe_int) po_none)) (blkOk_by (own := [("line", 5)]) (N := n_read_table) (sc := defScope s_read_table) (by decide +kernel)) (fun _ _ _ _ _ => (pg_name (i := 5) S.nd rfl (Or.inl rfl))) (fun _ _ _ _ _ => pts_nil) (fun _ _ _ _ _ => (pe_fn D_parse_line (hr.mono (by decide)) passLB rfl (pa_cons (pv 5) (pa_cons pe_str (pa_cons pe_int pa_nil))))))
      (pss_cons (ps_if (PW.pt (pw_or (pt_cmpR op_isN (pv 3) pe_non (nomark _)) (pw_or1 (pt_cmpR (op_inD (room65 hr)) pe_non (pv 4) (by with_unfolding_all rfl))))) (pss_one (L2N.ps_raise rfl takesB (L2N.pmk_own PySem.F.excBase_ValueError E_NoText.x E_NoText.g E_NoText.k (raises_own E_NoText.e E_NoText.t) (by exact rfl)))) pss_nil)
      (pss_cons (ps_set (i := 6) S.nd rfl (Or.inl rfl) (pe_tup (pa_cons (pe_ix ix_tup (pv 3) pe_int (fun _ _ => rfl)) (pa_cons (pe_callTy call_tuple_of (by rfl) B.tuple (by decide +kernel) (pa_cons (pv 4) pa_nil)) pa_nil))))
      (pss_cons (ps_if (pt_not (pt_val (pe_fn D_is_table (hr.mono (by decide)) passLB rfl (pa_cons (pv 6) pa_nil)))) (pss_one (L2N.ps_raise rfl takesB (L2N.pmk_own PySem.F.excBase_ValueError E_NoText.x E_NoText.g E_NoText.k (raises_own E_NoText.e E_NoText.t) (by exact rfl)))) pss_nil)
      (pss_one (ps_ret (pv 6))))))))))), ?_⟩
    have hsz : (2000000 : Nat) ≤ sizeLine := by decide
    rcases h with ⟨t, ty, hk, q⟩ | ⟨z, rfl, hz, q1, q2⟩
    · refine ⟨_, rfl, v, t, "str", false, rfl, ty, hk, _, rfl, ?_⟩
      exact q
    · refine ⟨_, rfl, .str z, "str", "str", true, rfl, .base (.str z), (show kitB "str" "str" = some true by decide +kernel), _, rfl, ?_⟩
      refine iteF' rfl ?_
      refine ⟨_, rfl, ⟨_, rfl⟩, z, _, rfl, rfl, by decide, by omega, fun p hp => ?_⟩
      obtain ⟨lines, last, er⟩ : ∃ lines last, Txt.split z "\n" = lines ++ [last] :=
        ⟨_, _, (List.dropLast_concat_getLast (split_ne (x := z) (y := "\n") (by decide) (by decide +kernel))).symm⟩
      rw [readM_eq er] at q1 q2
      obtain ⟨hw, hnr⟩ := split_sz (x := z) (y := "\n") (by decide) (by decide +kernel)
      rw [er] at hw hnr
      have e1 : (upd H p (.lst ((Txt.split z "\n").map V.str))) p = some (.lst (lines.map V.str ++ [.str last])) := by rw [upd_same, er, List.map_append]; rfl
      have k1 : Kp [] H (upd H p (.lst ((Txt.split z "\n").map V.str))) := Kp.new hp
      generalize upd H p (.lst ((Txt.split z "\n").map V.str)) = H1 at e1 k1 ⊢
      refine ⟨p, _, rfl, SqL.of e1, by simp, fun D hD => ?_⟩
      have ex : (List.map V.str lines ++ [V.str last]).length + 1 - 2 = (List.map V.str lines).length := by simp
      rw [List.take_zero, List.drop_zero, ex, List.drop_left, List.take_left]
      have e2 : (upd H1 D (.lst (lines.map V.str))) D = some (.lst (lines.map V.str)) := upd_same
      have k2 := k1.trans (Kp.new hD (o := .lst (lines.map V.str)))
      generalize upd H1 D (.lst (lines.map V.str)) = H2 at e2 k2 ⊢
      refine ⟨_, _, rfl, _, _, rfl, rfl, ?_⟩
      -- if lines == [] or last != "": raise
      refine ⟨_, rfl, (show (0 : Nat) ≤ sizeLine by omega), fun W hW => ?_⟩
      have eW : (upd H2 W (.lst [])) W = some (.lst []) := upd_same
      have k3 := k2.trans (Kp.new hW (o := .lst []))
      have e3 := (Kp.new (S := []) hW (o := .lst [])).keep _ _ e2 (by simp)
      generalize upd H2 W (.lst []) = H3 at eW k3 e3 ⊢
      refine ⟨.list (lines.map .str), .list [], .lst (SqL.of e3) (dp_strs lines), .lst (SqL.of eW) .nil, plain_strs lines, rfl, ?_, _, rfl, ?_⟩
      · show PyData.depthAll (lines.map .str) + 1 ≤ 60
        rw [depth_strs]
        decide
      rw [eqv_nilS]
      cases lines with
      | nil =>
        refine iteT' rfl ?_
        exact q1 (if_pos (.inl rfl)) H3 k3
      | cons l0 ls =>
        refine iteF' rfl ?_
        refine ⟨_, rfl, rfl, _, rfl, ?_⟩
        by_cases c1' : last ≠ ""
        · refine iteT' (by rw [decide_eq_false (fun z => c1' (V.str.inj z))]; rfl) ?_
          exact q1 (if_pos (.inr c1')) H3 k3
        have c1 : last = "" := Decidable.of_not_not c1'
        refine iteF' (by rw [decide_eq_true (congrArg V.str c1)]; rfl) ?_
        have hnc : ¬ (l0 :: ls = [] ∨ last ≠ "") := by
          rintro (z | z)
          · cases z
          · exact z c1
        rw [if_neg hnc] at q1 q2
        have hl0 := hw l0 (by simp)
        have hls : ls.length ≤ 1000000 := by
          simp only [List.length_append, List.length_cons, List.length_nil] at hnr
          omega
        -- head
        refine ⟨_, rfl, D, _, 0, .str l0, rfl, rfl, SqL.of e3, (by unfold atI ixN; simp), ?_⟩
        refine ⟨l0, "hours", 1, rfl, by omega, fun hv H4 k4 th => ?_⟩
        have e4 := k4.keep _ _ e3 (by simp)
        refine ⟨_, rfl, 1, rfl, D, _, rfl, SqL.of e4, fun L1 hL1 => ?_⟩
        have e5 : (upd H4 L1 (.lst (cutV ((l0 :: ls).map V.str) (some 1) none))) L1 = some (.lst (ls.map V.str)) := by
          rw [upd_same, List.map_cons, cut_tail]
        have k5 := k3.trans (k4.trans (Kp.new hL1 (o := .lst (cutV ((l0 :: ls).map V.str) (some 1) none))))
        have th5 := th.new hL1 (o := .lst (cutV ((l0 :: ls).map V.str) (some 1) none))
        generalize upd H4 L1 (.lst (cutV ((l0 :: ls).map V.str) (some 1) none)) = H5 at e5 k5 th5 ⊢
        refine ⟨L1, rfl, ⟨_, SqL.of e5⟩, fun L hL => lc_data (walk_list (K := K) (a := L1) (xs := ls.map V.str)) (fun i => match ls[i]? with | some w => [lineD (lineM w "ship" 2)] | none => []) hL (fun H6 k6 => SqL.of (k6.keep _ _ e5 (by simp))) ?_ ?_⟩
        · rintro i y H6 H7 hi L4 ⟨rfl, hx2⟩
          obtain ⟨w, ew, rfl⟩ := lines_at hx2
          have hwl := hw w (by have := List.mem_of_getElem? ew; simp [this])
          refine ⟨wipe1 (by decide), _, rfl, w, "ship", 2, rfl, by omega, fun u H8 k8 t8 => ?_⟩
          exact L4.fin (by rw [List.length_map]; omega) hL hi k8 (by rw [ew]) t8
        · intro H6 acc k6 hacc _ hT
          rw [List.length_map, flatMap_one ls _ (fun w => lineD (lineM w "ship" 2)) (fun i x e => by rw [e])] at hT
          have hT : TpAll H6 acc ((ls.map fun l => lineM l "ship" 2).map lineD) := by
            rw [List.map_map]
            exact hT
          have kk := k5.trans k6
          have th6 := th5.kp k6
          have e1' : (l0 :: ls).headD "" = l0 := rfl
          rw [e1', List.tail_cons] at q1 q2
          -- if head is None or None in ships: raise
          refine ⟨_, rfl, rfl, _, rfl, ?_⟩
          cases el : lineM l0 "hours" 1 with
          | none =>
            rw [el] at q1 th6
            cases th6
            refine iteT' rfl ?_
            exact q1 rfl H6 kk
          | some hs =>
            rw [el] at q1 q2 th6
            have hlen := lineM_len el
            obtain ⟨hh, rfl⟩ : ∃ hh, hs = [hh] := by
              match hs, hlen with
              | [a], _ => exact ⟨a, rfl⟩
            obtain ⟨ha, hx, rfl, eha, thx⟩ := tp_tup th6
            refine iteF' rfl ?_
            refine ⟨_, rfl, .none, (ls.map fun l => lineM l "ship" 2).map lineD, .non, .lst (SqL.of hacc) (TpAll.dp _ _ hT), by decide, shaped_lines _, _, rfl, ?_⟩
            rw [any_lines]
            by_cases c3 : none ∈ ls.map fun l => lineM l "ship" 2
            · refine iteT' (decide_eq_true c3) ?_
              exact q1 (if_pos c3) H6 kk
            · refine iteF' (decide_eq_false c3) ?_
              replace q1 := fun e => q1 (by show (if _ then _ else _) = none; rw [if_neg c3]; exact e)
              replace q2 := fun d e => q2 d (by show (if _ then _ else _) = some d; rw [if_neg c3]; exact e)
              have hx0 : hx = [.int hh] := tpAll_ints (ns := [hh]) thx
              subst hx0
              refine ⟨_, rfl, ha, _, 0, _, rfl, rfl, SqT.of eha, rfl, ?_⟩
              refine ⟨_, rfl, L, acc, rfl, .inl ⟨SqL.of hacc, fun T hT7 => ?_⟩⟩
              have kT := Kp.new (S := []) hT7 (o := .tup acc)
              have eT : (upd H6 T (.tup acc)) T = some (.tup acc) := upd_same
              have hT8 := hT.kp kT
              generalize upd H6 T (.tup acc) = H8 at kT eT hT8 ⊢
              refine ⟨(show (2 : Nat) ≤ sizeLine by omega), fun T2 hT9 => ?_⟩
              have kT2 := Kp.new (S := []) hT9 (o := .tup [.int hh, .ref T])
              have tT : Tp (upd H8 T2 (.tup [.int hh, .ref T])) (.ref T2) (.tuple [.int hh, .tuple ((ls.map fun l => lineM l "ship" 2).map lineD)]) :=
                .tup upd_same (.cons (.int _) (.cons (.tup (kT2.tup _ _ eT) (hT8.kp kT2)) .nil))
              have kk2 := kk.trans (kT.trans kT2)
              generalize upd H8 T2 (.tup [.int hh, .ref T]) = H9 at tT kk2 ⊢
              refine ⟨_, rfl, _, rfl, .inr ⟨_, Tp.dp _ _ tT, fun _ => tT, fun H10 k10 => ⟨_, rfl, ?_⟩⟩⟩
              cases ed : isTableD (.tuple [.int hh, .tuple ((ls.map fun l => lineM l "ship" 2).map lineD)]) with
              | false =>
                refine iteT' rfl ?_
                exact q1 (if_neg (by show ¬ (isTableD (.tuple [.int hh, .tuple ((ls.map fun l => lineM l "ship" 2).map lineD)]) = true); rw [ed]; exact Bool.false_ne_true)) H10 (kk2.trans k10)
              | true =>
                refine iteF' rfl ?_
                exact ⟨_, rfl, q2 _ (if_pos ed) _ H10 (kk2.trans k10) (tT.kp k10)⟩
end
end Ba

set_option maxHeartbeats 400000
namespace Ba
open PySem PySem.Spec PyProof.Rows L2
/-! ### a bound of the peak by the stays -/
def clS (h : Int) (s : Int × Int) : Int := (s.2 + h - 1) / h
theorem clS_mul {h : Int} (h1 : 1 ≤ h) (s : Int × Int) : s.2 ≤ clS h s * h := by
  unfold clS
  have a := Int.emod_add_mul_ediv (s.2 + h - 1) h
  have b := Int.emod_lt_of_pos (s.2 + h - 1) (show 0 < h by omega)
  rw [Int.mul_comm]
  generalize h * ((s.2 + h - 1) / h) = q at a ⊢
  omega
theorem clS_nonneg {h : Int} (h1 : 1 ≤ h) {s : Int × Int} (hs : 1 ≤ s.2) : 0 ≤ clS h s := Int.ediv_nonneg (by omega) (by omega)
theorem clS_le {h c : Int} (h1 : 1 ≤ h) {s : Int × Int} (hs : s.2 ≤ c * h) : clS h s ≤ c := by
  have : (s.2 + h - 1) / h < c + 1 := Int.ediv_lt_of_lt_mul (by omega) (by rw [Int.add_mul]; omega)
  unfold clS
  omega
theorem clS_mono {h : Int} (h1 : 1 ≤ h) {a b : Int × Int} (hs : a.2 ≤ b.2) : clS h a ≤ clS h b := Int.ediv_le_ediv (by omega) (by omega)
theorem sum_mapIdx_map_le (g : Int × Int → Int) : ∀ (l : List (Int × Int)) (f : Nat → Int × Int → Int), (∀ i x, x ∈ l → f i x ≤ g x) → (l.mapIdx f).sum ≤ (l.map g).sum
  | [], _, _ => by simp
  | a :: l, f, h => by
    rw [List.mapIdx_cons, List.sum_cons, List.map_cons, List.sum_cons]
    have h1 := h 0 a (by simp)
    have h2 := sum_mapIdx_map_le g l (fun i => f (i + 1)) (fun i x hx => h (i + 1) x (List.mem_cons_of_mem _ hx))
    omega
theorem sum_map_nonneg (g : Int × Int → Int) : ∀ (l : List (Int × Int)), (∀ x ∈ l, 0 ≤ g x) → 0 ≤ (l.map g).sum
  | [], _ => by simp
  | a :: l, h => by
    rw [List.map_cons, List.sum_cons]
    have h1 := h a (by simp)
    have h2 := sum_map_nonneg g l (fun x hx => h x (List.mem_cons_of_mem _ hx))
    omega
theorem sum_map_le_const (g : Int × Int → Int) (c : Int) : ∀ (l : List (Int × Int)), (∀ x ∈ l, g x ≤ c) → (l.map g).sum ≤ l.length * c
  | [], _ => by simp
  | a :: l, h => by
    rw [List.map_cons, List.sum_cons, List.length_cons]
    have h1 := h a (by simp)
    have h2 := sum_map_le_const g c l (fun x hx => h x (List.mem_cons_of_mem _ hx))
    push_cast
    rw [Int.add_mul, Int.one_mul]
    omega
theorem peak_cl {h : Int} {ss : List (Int × Int)} (h1 : 1 ≤ h) (hsh : ∀ x ∈ ss, 0 ≤ x.1 ∧ x.1 < h ∧ 1 ≤ x.2) : peakM h ss ≤ (ss.map (clS h)).sum := by
  refine Int.le_trans (peakM_le h1 hsh) ?_
  have h0 := sum_map_nonneg (clS h) ss (fun x hx => clS_nonneg h1 (hsh x hx).2.2)
  unfold lawPk
  refine foldl_mx_le _ _ _ h0 (fun x hx => ?_)
  obtain ⟨i, hi⟩ := List.mem_iff_getElem?.mp hx
  rw [List.getElem?_mapIdx] at hi
  cases e : ss[i]? with
  | none => rw [e] at hi; cases hi
  | some s =>
    rw [e] at hi
    cases hi
    have hs := hsh s (List.mem_of_getElem? e)
    unfold pkK
    refine sum_mapIdx_map_le (clS h) ss _ (fun j o ho => ?_)
    have hoo := hsh o ho
    exact pkT_le h1 (clS_nonneg h1 hoo.2.2) ⟨hs.1, hs.2.1⟩ ⟨hoo.1, hoo.2.1⟩ (clS_mul h1 o)
/-- a valid timetable -/
structure Good (h : Int) (ss : List (Int × Int)) : Prop where
  tv : TabV h ss
  pk : peakM h ss ≤ 60
theorem Good.of {h : Int} {ss : List (Int × Int)} (tv : TabV h ss) (hs : (ss.map (clS h)).sum ≤ 60) : Good h ss :=
  ⟨tv, Int.le_trans (peak_cl tv.h1 (fun x hx => by have := tv.sh x hx; omega)) hs⟩
theorem Good.tab {h : Int} {ss : List (Int × Int)} (g : Good h ss) : isTableD (tbD h ss) = true := by
  unfold isTableD
  rw [isShapeD_tb g.tv, tabOf_tb, decide_eq_true g.pk]
  rfl
theorem DrawT.tv {h most : Int} {ss : List (Int × Int)} (d : DrawT h most ss) (h1 : 1 ≤ h) (h2 : h ≤ 1000) (hm : most ≤ 24) : TabV h ss :=
  ⟨h1, h2, by have := d.n; omega, fun s hs => by have := d.sh s hs; omega⟩
theorem DrawT.sum {h most : Int} {ss : List (Int × Int)} (d : DrawT h most ss) (h1 : 1 ≤ h) (hm : most ≤ 24) : (ss.map (clS h)).sum ≤ 56 := by
  cases ss with
  | nil => simp
  | cons a l =>
    rw [List.map_cons, List.sum_cons]
    have ha := clS_le (c := 10) h1 (d.sh a (by simp)).2.2.2
    have hl := sum_map_le_const (clS h) 2 l (fun x hx => clS_le h1 (d.tl x hx))
    have := d.n
    rw [List.length_cons] at this
    omega
theorem DrawT.good {h most : Int} {ss : List (Int × Int)} (d : DrawT h most ss) (h1 : 1 ≤ h) (h2 : h ≤ 1000) (hm : most ≤ 24) : Good h ss :=
  Good.of (d.tv h1 h2 hm) (by have := d.sum h1 hm; omega)
theorem DrawT.good_rev {h most : Int} {ss : List (Int × Int)} (d : DrawT h most ss) (h1 : 1 ≤ h) (h2 : h ≤ 1000) (hm : most ≤ 24) : Good h ss.reverse := by
  have tv := d.tv h1 h2 hm
  refine Good.of ⟨h1, h2, by rw [List.length_reverse]; exact tv.n, fun s hs => tv.sh s (List.mem_reverse.mp hs)⟩ ?_
  have e : (ss.reverse.map (clS h)).sum = (ss.map (clS h)).sum := perm_sum (by rw [List.map_reverse]; exact List.reverse_perm _)
  rw [e]
  have := d.sum h1 hm
  omega
theorem DrawT.good_last {h most : Int} {l : List (Int × Int)} {a b c : Int} (d : DrawT h most (l ++ [(a, b)])) (h1 : 1 ≤ h) (h2 : h ≤ 1000) (hm : most ≤ 24) (hc : 1 ≤ c) (hcb : c ≤ b) : Good h (l ++ [(a, c)]) := by
  have tv := d.tv h1 h2 hm
  have hab := tv.sh (a, b) (by simp)
  have hab : 0 ≤ a ∧ a < h ∧ 1 ≤ b ∧ b ≤ 10000 := hab
  refine Good.of ⟨h1, h2, by have := tv.n; simpa using this, fun s hs => ?_⟩ ?_
  · rcases List.mem_append.mp hs with hs | hs
    · exact tv.sh s (by simp [hs])
    · rw [show s = (a, c) by simpa using hs]
      show 0 ≤ a ∧ a < h ∧ 1 ≤ c ∧ c ≤ 10000
      omega
  · have z := d.sum h1 hm
    rw [List.map_append, List.sum_append] at z ⊢
    have y : clS h (a, c) ≤ clS h (a, b) := clS_mono h1 hcb
    simp only [List.map_cons, List.map_nil, List.sum_cons, List.sum_nil] at z ⊢
    omega
theorem DrawT.good_drop {h most : Int} {l : List (Int × Int)} {s : Int × Int} (d : DrawT h most (l ++ [s])) (h1 : 1 ≤ h) (h2 : h ≤ 1000) (hm : most ≤ 24) : Good h l := by
  have tv := d.tv h1 h2 hm
  refine Good.of ⟨h1, h2, by have := tv.n; simp at this; omega, fun s hs => tv.sh s (by simp [hs])⟩ ?_
  have z := d.sum h1 hm
  rw [List.map_append, List.sum_append] at z
  have y := clS_nonneg h1 (s := s) (tv.sh s (by simp)).2.2.1
  simp only [List.map_cons, List.map_nil, List.sum_cons, List.sum_nil] at z
  omega
theorem good_1000 : Good 1000 [(999, 10000)] := Good.of ⟨by decide, by decide, by decide, fun s hs => by rw [show s = (999, 10000) by simpa using hs]; decide⟩ (by decide)
theorem good_1 : Good 1 [] := Good.of ⟨by decide, by decide, by decide, fun s hs => by cases hs⟩ (by decide)
theorem text_inj {h k : Int} {ss ts : List (Int × Int)} (g : Good h ss) (g2 : Good k ts) (e : textM h ss = textM k ts) : h = k ∧ ss = ts := by
  have z := readM_text g.tv g.pk
  rw [e, readM_text g2.tv g2.pk] at z
  injection z with z
  have y := congrArg tabOf z
  rw [tabOf_tb, tabOf_tb] at y
  injection y with y1 y2
  exact ⟨y1.symm, y2.symm⟩
end Ba

set_option maxHeartbeats 400000
namespace Ba
open PySem PySem.Spec PyProof.Rows L2
/-! ### a call of _law_kind in an except suite -/
structure DefP (P : Program) (w : World) (K : PySem.W.Frag) (mg : Str → Option Value) (base : Heap) (x : Str) (k : Nat) (ps : List Str) (sp : Addr → Value → Option Addr → Sp) : Prop where
  ex : ∃ (f : Addr) (fd : FuncData), FnP P w K mg base (L2N.CX P w) k f fd ps sp ∧ mg x = some (.ref f) ∧ PySem.W.keepIn K (.ref f) = true ∧ Binds K fd ps []
section
variable {X : Cx} {k : Nat} {ps : List Str} {sp : Addr → Value → Option Addr → Sp} {x : Str} {np pos : Pos} {e : Expr} {es : List Expr} {t : TA}
theorem pe_kind {a : Addr} {oe : Obj} {cls : Value} {d : Option Addr} {pn : List (Addr × Obj)} (D : DefP X.prog X.w X.K X.mg X.base x k ps sp) (hr : Room k X.A) (hz : L2N.Zn cls d oe) (hf : ∃ vs, oe.data = .fields vs) (hg : Gl X x)
    (ha : PA (X.suite a ((a, oe) :: pn)) (e :: es) t) (hdb : (x == ("__debug__" : Str)) = false := by decide) (h1 : starEach (e :: es) (X.suite a ((a, oe) :: pn)).env = (false, eval e (X.suite a ((a, oe) :: pn)).env) :: starEach es (X.suite a ((a, oe) :: pn)).env := by rfl) (h2 : (backTo pos (starEach es (X.suite a ((a, oe) :: pn)).env)).any (·.1) = false := by rfl) :
    PE (X.suite a ((a, oe) :: pn)) (.Call (.Name x np) (e :: es) [] pos) (tCallP a cls d sp E0 t) := by
  obtain ⟨f, fd, F, hm, hk, hb⟩ := D
  obtain ⟨vs, ev⟩ := hf
  exact pe_callP (X := X.suite a ((a, oe) :: pn)) (p := (a, oe)) (cls := cls) (d := d) F (L2H.roomH_mark hr (some (.ref a))) ⟨rfl, vs, ev, hz.2.2 vs ev⟩ List.mem_cons_self ⟨hz.zc, vs, ev⟩ hg hm hk hb passLB ha hdb h1 h2
end
section
variable {P : Program} {w : World} {K : PySem.W.Frag} {mg : Str → Option Value} {base : Heap} {f : Addr} {fd : FuncData}
/-- no timetable -/
def NoTab (K : PySem.W.Frag) (H : Hp) (v : V) : Prop := (∃ t, TyX K H v (.type t) ∧ kitB t "tuple" = some false) ∨ ∃ d, Dp K H v d ∧ isShapeD d = false
abbrev spShown (K : PySem.W.Frag) : Sp := Pr fun vs H Q E => ∃ v, vs = [v] ∧ NoTab K H v ∧ ∀ H', Kp [] H H' → Q (.str "table") H'
theorem ok_law_shown {CT CB : Addr} {cl : Str → Addr} (gB : mg "BerthError" = some (.ref CB)) (hm1 : PySem.W.exmOne K (.ref CT) (.ref CB) = some true) (KC : KindC K cl CT 0) (D_show_table : DefOk P w K mg base "show_table" 6 p_show_table [] (spShow K CT)) (D_kind : DefP P w K mg base "_law_kind" 1 p__law_kind (spKind K cl))
    (F : FunS K "_law_shown" "_law_shown" s__law_shown [] [] f fd) (hm : mg "_law_shown" = some (.ref f)) : DefOk P w K mg base "_law_shown" 7 p__law_shown [] (spShown K) := by
  have S := sc__law_shown
  refine defOk F hm S (fun _ _ _ _ _ _ us hl => match us, hl with | [_], _ => rfl) (fun vs H Q E h => ?_) (fun cdv A outer s H vs Q E hr h => ?_)
  · obtain ⟨v, rfl, _⟩ := h
    rfl
  · obtain ⟨v, rfl, hn, q⟩ := h
    refine ⟨_, (pss_one (L2N.ps_try_as (i := 1) rfl rfl S.nd rfl rfl ⟨rfl, by decide, .inl gB⟩ takesB (fun W pn xe tk _ => (pss_one (ps_ret (pe_fnS D_show_table (hr.mono (by decide)) (fun τ => L2N.passAt tk τ) rfl (pa_cons (pv 0) pa_nil))))) (fun a oe cls d pn hz hf => (pss_one (ps_ret (pe_kind D_kind (hr.mono (by decide)) hz hf rfl (pa_cons (pv 1) pa_nil))))))), ?_⟩
    have fin : ∀ H', Kp [] H H' → ∀ a, H' a = none → spKind K cl a (.ref CT) none [.ref a] H' (fun v H' => Q v H') E0 := fun H' k a ha => ⟨CT, 0, _, rfl, rfl, rfl, KC, rfl, fun H2 k2 => q H2 (k.trans k2)⟩
    rcases hn with ⟨t, ty, hk⟩ | ⟨d, hd, hs⟩
    · refine ⟨_, rfl, v, rfl, .inl ⟨t, ty, hk, true, hm1, fun _ a ha => ⟨_, rfl, ?_⟩, fun z => nomatch z⟩⟩
      exact fin H (Kp.refl _) a ha
    · refine ⟨_, rfl, v, rfl, .inr ⟨d, hd, fun z => (by rw [hs] at z; cases z), fun H1 k1 => ?_⟩⟩
      have e : isTableD d = false := by unfold isTableD; rw [hs]; rfl
      rw [e]
      refine ⟨true, hm1, fun _ a ha => ⟨_, rfl, ?_⟩, fun z => nomatch z⟩
      exact fin H1 k1 a ha
end
end Ba

set_option maxHeartbeats 400000
namespace Ba
open PySem PySem.Spec PyProof.Rows L2
/-! ### the law -/
theorem tpAll_takeN {H : Hp} : ∀ {vs : List V} {ds : List PyData} (n : Nat), TpAll H vs ds → TpAll H (vs.take n) (ds.take n)
  | _, _, 0, _ => by simpa using (.nil : TpAll H [] [])
  | _, _, n + 1, .nil => by simpa using (.nil : TpAll H [] [])
  | _, _, n + 1, .cons h t => by
    rw [List.take_succ_cons, List.take_succ_cons]
    exact .cons h (tpAll_takeN n t)
theorem tpAll_rev {H : Hp} : ∀ {vs : List V} {ds : List PyData}, TpAll H vs ds → TpAll H vs.reverse ds.reverse
  | _, _, .nil => .nil
  | _, _, .cons h t => by
    rw [List.reverse_cons, List.reverse_cons]
    exact (tpAll_rev t).append (.cons h .nil)
theorem slA_drop {K : PySem.W.Frag} {H : Hp} {b : Addr} {xs : List V} {ds : List PyData} {Q : VK} (hb : H b = some (.tup xs)) (hx : TpAll H xs ds) (q : ∀ p G, Kp [] H G → Tp G (.ref p) (.tuple ds.dropLast) → Q (.ref p) G) : rSlA K (.ref b) none (some (-1)) H Q := by
  refine ⟨b, xs, rfl, SqT.of hb, fun hw => ?_, fun hw p hp => ?_⟩
  · have h2 : ((-1 : Int) + (xs.length : Int)).toNat = xs.length := hw.2
    have h0 : xs = [] := by
      cases xs with
      | nil => rfl
      | cons a l => simp only [List.length_cons] at h2; omega
    subst h0
    cases hx
    exact q b H (Kp.refl _) (.tup hb .nil)
  · have e : cutV xs none (some (-1)) = xs.take (xs.length - 1) := by
      show (xs.drop 0).take (((-1 : Int) + (xs.length : Int)).toNat - 0) = _
      rw [List.drop_zero]
      congr 1
      omega
    rw [e]
    refine q p _ (Kp.new hp) (.tup upd_same ?_)
    rw [List.dropLast_eq_take, ← hx.length]
    exact (tpAll_takeN _ hx).new hp
/-- a timetable at v -/
structure TabG (H : Hp) (v : V) (t : Int × List (Int × Int)) : Prop where
  tp : Tp H v (tbD t.1 t.2)
  g : Good t.1 t.2
theorem eqv_sh {a b : Int × Int} (e : PyData.eqv (shD a) (shD b) = true) : a = b := by
  have e : ((a.1 == b.1) && ((a.2 == b.2) && true)) = true := e
  rw [Bool.and_true, Bool.and_eq_true] at e
  exact Prod.ext (by simpa using e.1) (by simpa using e.2)
theorem eqv_shs : ∀ {l m : List (Int × Int)}, PyData.eqvAll (l.map shD) (m.map shD) = true → l = m
  | [], [], _ => rfl
  | [], _ :: _, e => by cases e
  | _ :: _, [], e => by cases e
  | a :: l, b :: m, e => by
    have e : (PyData.eqv (shD a) (shD b) && PyData.eqvAll (l.map shD) (m.map shD)) = true := e
    rw [Bool.and_eq_true] at e
    rw [eqv_sh e.1, eqv_shs e.2]
theorem plain_tb (h : Int) (ss : List (Int × Int)) : (tbD h ss).plain = true := by
  show (PyData.plain (.int h) && (PyData.plainAll (ss.map shD) && true)) = true
  rw [plain_pairs]
  rfl
theorem depth_tb (h : Int) (ss : List (Int × Int)) : (tbD h ss).depth ≤ 3 := by
  have := depth_pairs ss
  show max 0 (max (PyData.depthAll (ss.map shD) + 1) 0) + 1 ≤ 3
  omega
theorem eqv_tb {h k : Int} {ss ts : List (Int × Int)} : PyData.eqv (tbD h ss) (tbD k ts) = decide (h = k ∧ ss = ts) := by
  by_cases c : h = k ∧ ss = ts
  · obtain ⟨rfl, rfl⟩ := c
    rw [eqv_refl _ (plain_tb _ _)]
    exact (decide_eq_true ⟨rfl, rfl⟩).symm
  · rw [decide_eq_false c]
    cases e : PyData.eqv (tbD h ss) (tbD k ts) with
    | false => rfl
    | true =>
      have e : ((h == k) && (PyData.eqvAll (ss.map shD) (ts.map shD) && true)) = true := e
      rw [Bool.and_true, Bool.and_eq_true] at e
      exact absurd ⟨by simpa using e.1, eqv_shs e.2⟩ c
theorem eq_text {h k : Int} {ss ts : List (Int × Int)} (g : Good h ss) (g2 : Good k ts) : decide (V.str (textM h ss) = V.str (textM k ts)) = PyData.eqv (tbD h ss) (tbD k ts) := by
  rw [eqv_tb, decide_eq_decide]
  constructor
  · intro e
    exact text_inj g g2 (V.str.inj e)
  · rintro ⟨rfl, rfl⟩
    rfl
theorem wide_sh : ∀ l : List (Int × Int), wideAll (l.map shD) ≤ 2
  | [] => by simp [wideAll]
  | a :: l => by
    have := wide_sh l
    have h2 : wideD (shD a) = 2 := by simp [shD, wideD, wideAll]
    show max (wideD (shD a)) (wideAll (l.map shD)) ≤ 2
    omega
theorem textM_len {h : Int} {ss : List (Int × Int)} (tv : TabV h ss) : (textM h ss).length ≤ 1000 := by
  have zs := sum_le (c := 26) (linesL h ss) (fun y hy => by
    rw [← linesM_eq] at hy
    obtain ⟨i, hi⟩ := List.mem_iff_getElem?.mp hy
    exact linesM_len tv hi)
  have hll : (linesL h ss).length ≤ 25 := by unfold linesL; have := tv.n; simp; omega
  have n1 : (Str.ofString "\n").length = 1 := by decide
  have z := joinLen (Str.ofString "\n") (linesL h ss)
  rw [n1, Nat.mul_one] at z
  rw [textM_eq, Str.length_append]
  show _ + (Str.ofString "\n").length ≤ _
  omega
section
variable {K : PySem.W.Frag} {CT CX : Addr} {H : Hp} {x : V} {t : Int × List (Int × Int)} {Q : VK} {E : XK}
theorem show_ask (g : TabG H x t) (q : ∀ H', Kp [] H H' → Q (.str (textM t.1 t.2)) H') : spShow K CT [x] H Q E :=
  ⟨x, rfl, .inr ⟨_, Tp.dp _ _ g.tp, fun _ => g.tp, fun H' k => by rw [if_pos g.g.tab, tabOf_tb]; exact q H' k⟩⟩
theorem read_ask (g : Good t.1 t.2) (q : ∀ u H', Kp [] H H' → Tp H' u (tbD t.1 t.2) → Q u H') : spRead K CX [.str (textM t.1 t.2)] H Q E :=
  ⟨_, rfl, .inr ⟨_, rfl, Nat.le_trans (textM_len g.tv) (by decide), fun e => (by rw [readM_text g.tv g.pk] at e; cases e), fun d e u H' k tp => (by rw [readM_text g.tv g.pk] at e; cases e; exact q u H' k tp)⟩⟩
theorem TabG.kp {H' : Hp} {S : List Addr} (g : TabG H x t) (k : Kp S H H') : TabG H' x t := ⟨g.tp.kp k, g.g⟩
theorem catA_ask {a b : Addr} {ds es : List PyData} {ys : List V} (ha : Tp H (.ref a) (.tuple ds)) (hb : H b = some (.tup ys)) (hy : TpAll H ys es) (hn : ys ≠ []) (hl : ds.length + es.length ≤ sizeLine)
    (q : ∀ p G, Kp [] H G → Tp G (.ref p) (.tuple (ds ++ es)) → Q (.ref p) G) : rCatA K (.ref a) (.ref b) H Q := by
  obtain ⟨a', xs, e, ha, hx⟩ := tp_tup ha
  cases e
  refine ⟨a, b, xs, ys, rfl, rfl, SqT.of ha, SqT.of hb, by rw [hx.length, hy.length]; exact hl, fun e => ?_, fun _ e => absurd e hn, fun _ _ p hp => q p _ (Kp.new hp) (.tup upd_same ((hx.append hy).new hp))⟩
  subst e
  cases hx
  exact q b H (Kp.refl _) (.tup hb hy)
theorem at_last {xs : List V} {ds : List PyData} {d : PyData} (hx : TpAll H xs (ds ++ [d])) : ∃ v, atI xs (-1) = some v ∧ Tp H v d := by
  obtain ⟨v, e, t⟩ := hx.getD (i := ds.length) (d := d) (by simp)
  refine ⟨v, ?_, t⟩
  have hl := hx.length
  rw [List.length_append, List.length_singleton] at hl
  unfold atI ixN
  rw [if_neg (by decide), if_pos (by omega)]
  show xs[((-1 : Int) + (xs.length : Int)).toNat]? = some v
  rw [show ((-1 : Int) + (xs.length : Int)).toNat = ds.length by omega]
  exact e
theorem mkTup {vs : List V} {ds : List PyData} (t : TpAll H vs ds) {p : Addr} (hp : H p = none) : Kp [] H (upd H p (.tup vs)) ∧ Tp (upd H p (.tup vs)) (.ref p) (.tuple ds) := ⟨Kp.new hp, .tup upd_same (t.new hp)⟩
end
section
variable {P : Program} {w : World} {K : PySem.W.Frag} {mg : Str → Option Value} {base : Heap} {f : Addr} {fd : FuncData}
abbrev spLaw (K : PySem.W.Frag) : Sp := Pr fun vs H Q _ => ∃ (sa : Addr) (ns : List Int), vs = [.ref sa] ∧ SqL K H sa (ns.map V.int) ∧ ∀ H', Q (.bl true) H'
theorem ok_law {CT CX : Addr} (B : Bi mg) (D__law_pail : DefOk P w K mg base "_law_pail" 1 p__law_pail [] (spPail K))
    (D__law_hours : DefOk P w K mg base "_law_hours" 2 p__law_hours [] spHours) (D__law_table : DefOk P w K mg base "_law_table" 2 p__law_table [] spTable)
    (D__law_text : DefOk P w K mg base "_law_text" 1 p__law_text [] spLawText) (D__law_same : DefOk P w K mg base "_law_same" 8 p__law_same [] (spSame K 8))
    (D_show_table : DefOk P w K mg base "show_table" 6 p_show_table [] (spShow K CT)) (D_read_table : DefOk P w K mg base "read_table" 5 p_read_table [] (spRead K CX)) (D__law_shown : DefOk P w K mg base "_law_shown" 7 p__law_shown [] (spShown K))
    (F : FunS K "law" "law" s_law [] [] f fd) : FnOk P w K mg base (L2N.CX P w) 9 f fd p_law (spLaw K) := by
  have S := sc_law
  refine F.ok S (fun vs H Q E h => ?_) (fun cdv A outer s H vs Q E hr h => ?_)
  · obtain ⟨_, _, rfl, _⟩ := h
    rfl
  · obtain ⟨sa, ns, rfl, hsa, q⟩ := h
    refine ⟨_, (pss_cons (ps_for (passes_of rfl) rfl (pi_range1 (by rfl) B.range (pa_cons (pe_callB (call_max2 rfl) (by rfl) B.max (by decide +kernel) (pa_cons pe_int (pa_cons (pe_callB (call_min2 rfl) (by rfl) B.min (by decide +kernel) (pa_cons pe_int (pa_cons (pe_callB call_len_seq (by rfl) B.len (by decide +kernel) (pa_cons (pv 0) pa_nil)) pa_nil))) pa_nil))) pa_nil)) (pg_name (i := 1) S.nd rfl (Or.inl rfl))
      (pss_cons (ps_set (i := 2) S.nd rfl (Or.inl rfl) (pe_fn D__law_pail (hr.mono (by decide)) passLB rfl (pa_cons (pv 0) (pa_cons (pv 1) pa_nil))))
      (pss_cons (ps_set (i := 3) S.nd rfl (Or.inl rfl) (pe_fn D__law_table (hr.mono (by decide)) passLB rfl (pa_cons (pv 2) (pa_cons (pe_fn D__law_hours (hr.mono (by decide)) passLB rfl (pa_cons (pv 2) pa_nil)) (pa_cons pe_int pa_nil)))))
      (pss_cons (ps_asg (pv 3) (pg_tup rfl (pgs_cons (pg_name (i := 4) S.nd rfl (Or.inl rfl)) (pgs_cons (pg_name (i := 5) S.nd rfl (Or.inl rfl)) pgs_nil))))
      (pss_cons (ps_set (i := 6) S.nd rfl (Or.inl rfl) (pe_lst (pa_cons (pv 3) (pa_cons (pe_tup (pa_cons (pv 4) (pa_cons (pe_slice sl_tupA (pv 5) po_none (po_some (pe_un un_neg pe_int))) pa_nil))) (pa_cons (pe_tup (pa_cons (pv 4) (pa_cons (pe_revT (pv 5)) pa_nil))) (pa_cons (pe_tup (pa_cons pe_int (pa_cons (pe_tup (pa_cons (pe_tup (pa_cons pe_int (pa_cons pe_int pa_nil))) pa_nil)) pa_nil))) (pa_cons (pe_tup (pa_cons pe_int (pa_cons (pe_tup pa_nil) pa_nil))) pa_nil)))))))
      (pss_cons (ps_if (pt_cmpR (op_neP hr.units) (pv 5) (pe_tup pa_nil) (nomark _)) (pss_cons (ps_asg (pe_ix ix_tup (pv 5) (pe_un un_neg pe_int) (fun _ _ => rfl)) (pg_tup rfl (pgs_cons (pg_name (i := 7) S.nd rfl (Or.inl rfl)) (pgs_cons (pg_name (i := 8) S.nd rfl (Or.inl rfl)) pgs_nil))))
      (pss_one (ps_expr (pe_bm PySem.F.plainAttrs_list PySem.F.slot_list_append PySem.F.type_list_append mt_append (pv 6) (pa_cons (pe_tup (pa_cons (pv 4) (pa_cons (pe_op op_catA (pe_slice sl_tupA (pv 5) po_none (po_some (pe_un un_neg pe_int))) (pe_tup (pa_cons (pe_tup (pa_cons (pv 7) (pa_cons (pe_callB (call_max2 rfl) (by rfl) B.max (by decide +kernel) (pa_cons pe_int (pa_cons (pe_op op_sub (pv 8) pe_int) pa_nil))) pa_nil))) pa_nil))) pa_nil))) pa_nil))))) pss_nil)
      (pss_cons (ps_for (passes_of rfl) rfl (pi_list (pv 6)) (pg_name (i := 9) S.nd rfl (Or.inl rfl))
      (pss_cons (ps_set (i := 10) S.nd rfl (Or.inl rfl) (pe_fn D__law_text (hr.mono (by decide)) passLB rfl (pa_cons (pv 9) pa_nil)))
      (pss_cons (ps_if (pt_not (pt_val (pe_fn D__law_same (hr.mono (by decide)) passLB rfl (pa_cons (pe_lst (pa_cons (pe_fn D_show_table (hr.mono (by decide)) passLB rfl (pa_cons (pv 9) pa_nil)) (pa_cons (pe_fn D_read_table (hr.mono (by decide)) passLB rfl (pa_cons (pv 10) pa_nil)) pa_nil))) (pa_cons (pe_lst (pa_cons (pv 10) (pa_cons (pv 9) pa_nil))) pa_nil))))) (pss_one (ps_ret pe_bl)) pss_nil)
      (pss_one (ps_if (pt_cmpR op_ne (pe_cmpR op_eq (pe_fn D_show_table (hr.mono (by decide)) passLB rfl (pa_cons (pv 9) pa_nil)) (pe_fn D_show_table (hr.mono (by decide)) passLB rfl (pa_cons (pv 3) pa_nil)) (nomark _)) (pe_cmpR (op_eqP hr.units) (pv 9) (pv 3) (nomark _)) (nomark _)) (pss_one (ps_ret pe_bl)) pss_nil)))))
      (pss_one (ps_for (passes_of rfl) rfl (pi_list (pe_lst (pa_cons pe_non (pa_cons pe_str (pa_cons (pv 10) (pa_cons (pe_callTy call_list_of (by rfl) B.list (by decide +kernel) (pa_cons (pv 3) pa_nil)) (pa_cons (pe_tup (pa_cons (pv 4) (pa_cons (pe_callTy call_list_of (by rfl) B.list (by decide +kernel) (pa_cons (pv 5) pa_nil)) pa_nil))) (pa_cons (pe_tup (pa_cons pe_int (pa_cons (pe_tup pa_nil) pa_nil))) (pa_cons (pe_tup (pa_cons (pv 4) (pa_cons (pe_tup (pa_cons (pe_tup (pa_cons pe_int (pa_cons pe_int pa_nil))) pa_nil)) pa_nil))) (pa_cons pe_int pa_nil)))))))))) (pg_name (i := 11) S.nd rfl (Or.inl rfl))
      (pss_one (ps_if (pt_cmpR op_ne (pe_fn D__law_shown (hr.mono (by decide)) passLB rfl (pa_cons (pv 11) pa_nil)) pe_str (nomark _)) (pss_one (ps_ret pe_bl)) pss_nil)))))))))))
      (pss_one (ps_ret pe_bl))), ?_⟩
    have hmn : ∀ a : Int, (if (if a < 6 then a else 6) > 1 then (if a < 6 then a else 6) else 1) ≤ 6 ∧ 1 ≤ (if (if a < 6 then a else 6) > 1 then (if a < 6 then a else 6) else 1) := fun a => by
      by_cases h1 : a < 6
      · rw [if_pos h1]
        split <;> omega
      · rw [if_neg h1]
        decide
    have hsz : (2000000 : Nat) < sizeLine := by decide
    have h2s : (2 : Nat) ≤ sizeLine := by omega
    have h1s : (1 : Nat) ≤ sizeLine := by omega
    refine ⟨_, rfl, sa, _, rfl, .inl hsa, _, _, rfl, _, _, rfl, _, rfl, by have := hmn (ns.map V.int).length; omega, by have := hmn (ns.map V.int).length; omega, ?_⟩
    refine for_it (walk_range (lo := 0)) (fun i σ G => ∃ o1 o2 o3 o4 o5 o6 o7 o8 o9 o10 o11 : Option V, σ = [some (.ref sa), o1, o2, o3, o4, o5, o6, o7, o8, o9, o10, o11] ∧ Kp [] H G) ⟨none, none, none, none, none, none, none, none, none, none, none, rfl, Kp.refl _⟩ (fun _ _ _ _ _ => trivial) ?_ ?_
    · rintro i x σ G H0 hi ⟨o1, o2, o3, o4, o5, o6, o7, o8, o9, o10, o11, rfl, k0⟩ ⟨rfl, rfl⟩
      have hi4 : i < 7 := by have := hmn (ns.map V.int).length; omega
      -- the pail
      refine ⟨_, rfl, _, rfl, sa, ns, i, (by show [V.ref sa, V.int (0 + (i : Int))] = _; rw [Int.zero_add]), sqL_kp k0 (by simp) hsa, by omega, fun pa G1 hpa k1 p1 => ?_⟩
      -- the table
      refine ⟨_, rfl, _, rfl, pa, 0, rfl, p1, by decide, fun h G2 h1 h2 k2 p2 => ?_⟩
      refine ⟨pa, h, 24, _, rfl, p2, by decide, h1, h2, by decide, by decide, fun tv ss G3 dT k3 p3 t3 => ?_⟩
      have k03 : Kp [] H0 G3 := ((k1.mono (S' := [pa]) (by simp)).trans (k2.trans k3)).less (fun b hb => .inr (by rw [show b = pa by simpa using hb]; exact hpa))
      have kk3 := k0.trans k03
      clear k1 k2 k3 p1 p2 p3 hpa k03 k0
      obtain ⟨ta, tb, xs, rfl, ha, hb, hx⟩ := tp_table t3
      have hl := tpAll_mlen hx
      refine ⟨_, rfl, ta, _, rfl, SqT.of ha, rfl, _, _, rfl, _, _, rfl, rfl, ?_⟩
      -- the list
      refine ⟨_, rfl, _, rfl, _, rfl, 1, rfl, -1, rfl, slA_drop hb hx fun q1 G4 k4 t4 => ?_⟩
      refine ⟨(show (2:Nat) ≤ sizeLine by omega), fun T1 hT1 => ?_⟩
      have tT1 : Tp (upd G4 T1 (.tup [.int h, .ref q1])) (.ref T1) (.tuple [.int h, .tuple (ss.map shD).dropLast]) := .tup upd_same (.cons (.int _) (.cons (t4.new hT1) .nil))
      have k5 := k4.trans (Kp.new hT1 (o := .tup [.int h, .ref q1]))
      generalize upd G4 T1 (.tup [.int h, .ref q1]) = G5 at tT1 k5 ⊢
      refine ⟨_, rfl, _, rfl, tb, xs, rfl, SqT.of (k5.tup _ _ hb), fun q2 hq2 => ?_⟩
      have tq2 : Tp (upd G5 q2 (.tup xs.reverse)) (.ref q2) (.tuple (ss.map shD).reverse) := .tup upd_same (tpAll_rev ((hx.kp k5).new hq2))
      have k6 := k5.trans (Kp.new hq2 (o := .tup xs.reverse))
      have tT1' := tT1.new hq2 (o := .tup xs.reverse)
      generalize upd G5 q2 (.tup xs.reverse) = G6 at tq2 k6 tT1' ⊢
      refine ⟨(show (2:Nat) ≤ sizeLine by omega), fun T2 hT2 => ?_⟩
      have tT2 : Tp (upd G6 T2 (.tup [.int h, .ref q2])) (.ref T2) (.tuple [.int h, .tuple (ss.map shD).reverse]) := .tup upd_same (.cons (.int _) (.cons (tq2.new hT2) .nil))
      have k7 := k6.trans (Kp.new hT2 (o := .tup [.int h, .ref q2]))
      have tT1'' := tT1'.new hT2 (o := .tup [.int h, .ref q2])
      generalize upd G6 T2 (.tup [.int h, .ref q2]) = G7 at tT2 k7 tT1'' ⊢
      refine ⟨h2s, fun A1 hA1 => ⟨h1s, fun A2 hA2 => ⟨h2s, fun T3 hT3 => ?_⟩⟩⟩
      obtain ⟨ka, tA1⟩ := mkTup (.cons (.int 999) (.cons (.int 10000) .nil)) hA1
      obtain ⟨kb, tA2⟩ := mkTup (.cons tA1 .nil) hA2
      obtain ⟨kc, tT3⟩ := mkTup (.cons (.int 1000) (.cons tA2 .nil)) hT3
      have kabc := ka.trans (kb.trans kc)
      generalize upd (upd (upd G7 A1 (.tup [.int 999, .int 10000])) A2 (.tup [.ref A1])) T3 (.tup [.int 1000, .ref A2]) = Ga at kabc tT3 ⊢
      refine ⟨by decide, fun B1 hB1 => ⟨h2s, fun T4 hT4 => ?_⟩⟩
      obtain ⟨kd, tB1⟩ := mkTup (H := Ga) .nil hB1
      obtain ⟨ke, tT4⟩ := mkTup (.cons (.int 1) (.cons tB1 .nil)) hT4
      have kde := kd.trans ke
      generalize upd (upd Ga B1 (.tup [])) T4 (.tup [.int 1, .ref B1]) = Gb at kde tT4 ⊢
      refine ⟨(show (5 : Nat) ≤ sizeLine by omega), fun L hL => ?_⟩
      have hL0 : H L = none := (kk3.trans (k7.trans (kabc.trans kde))).free hL
      have kl := Kp.new (S := []) hL (o := .lst [.ref ta, .ref T1, .ref T2, .ref T3, .ref T4])
      have eL : (upd Gb L (.lst [.ref ta, .ref T1, .ref T2, .ref T3, .ref T4])) L = some (.lst [.ref ta, .ref T1, .ref T2, .ref T3, .ref T4]) := upd_same
      have k7l := kabc.trans (kde.trans kl)
      have kx8 := k7.trans k7l
      generalize upd Gb L (.lst [.ref ta, .ref T1, .ref T2, .ref T3, .ref T4]) = G8 at k7l eL kx8 kl ⊢
      have gD : Good h ss := dT.good h1 h2 (by decide)
      have hA5 : ∀ v ∈ [V.ref ta, .ref T1, .ref T2, .ref T3, .ref T4], ∃ t, TabG G8 v t := by
        intro v hv
        have hv : v = .ref ta ∨ v = .ref T1 ∨ v = .ref T2 ∨ v = .ref T3 ∨ v = .ref T4 := by simpa using hv
        rcases hv with rfl | rfl | rfl | rfl | rfl
        · exact ⟨(h, ss), t3.kp kx8, gD⟩
        · refine ⟨(h, ss.dropLast), ?_, ?_⟩
          · have z := (tT1''.kp k7l)
            rw [← List.map_dropLast] at z
            exact z
          · rcases List.eq_nil_or_concat ss with e | ⟨l, a, e⟩
            · subst e
              exact gD
            · rw [List.concat_eq_append] at e
              subst e
              rw [List.dropLast_concat]
              exact dT.good_drop h1 h2 (by decide)
        · refine ⟨(h, ss.reverse), ?_, dT.good_rev h1 h2 (by decide)⟩
          have z := (tT2.kp k7l)
          rw [← List.map_reverse] at z
          exact z
        · exact ⟨(1000, [(999, 10000)]), tT3.kp (kde.trans kl), good_1000⟩
        · exact ⟨(1, []), tT4.kp kl, good_1⟩
      have kk8 := kk3.trans kx8
      have ha8 := kx8.tup _ _ ha
      have hb8 := kx8.tup _ _ hb
      have hx8 := hx.kp kx8
      have ht8 := t3.kp kx8
      have hl5 : [V.ref ta, .ref T1, .ref T2, .ref T3, .ref T4].length = 5 := rfl
      generalize [V.ref ta, .ref T1, .ref T2, .ref T3, .ref T4] = vs at eL hA5 hl5
      clear tT1 tT1' tT1'' tT2 tT3 tT4 kabc kde kl k7l kx8 k7 k6 k5 k4 tq2 t4 ha hb t3
      -- if ships != ()
      refine ⟨_, rfl, by decide, fun N hN => ?_⟩
      have kN := Kp.new (S := []) hN (o := .tup [])
      have eN : Tp (upd G8 N (.tup [])) (.ref N) (.tuple []) := .tup upd_same .nil
      have eL' := kN.keep _ _ eL (by simp)
      have hA' : ∀ v ∈ vs, ∃ t, TabG (upd G8 N (.tup [])) v t := fun v hv => by obtain ⟨t, g⟩ := hA5 v hv; exact ⟨t, g.kp kN⟩
      have kk9 := kk8.trans kN
      have ha9 := kN.tup _ _ ha8
      have hb9 := kN.tup _ _ hb8
      have hx9 := hx8.kp kN
      have ht9 := ht8.kp kN
      clear eL hA5 kk8 ha8 hb8 hx8 ht8 kN
      generalize upd G8 N (.tup []) = G8' at eN eL' hA' kk9 ha9 hb9 hx9 ht9 ⊢
      clear hN
      refine ⟨.tuple (ss.map shD), .tuple [], Dp.tup (SqT.of hb9) (TpAll.dp _ _ hx9), Tp.dp _ _ eN, plain_pairs ss, rfl, by have := depth_pairs ss; show PyData.depthAll (ss.map shD) + 1 ≤ 60; omega, _, rfl, ?_⟩
      rcases List.eq_nil_or_concat ss with e | ⟨l, ⟨a, b⟩, e⟩
      · refine iteF' (by rw [e]; rfl) ?_
        have eL := eL'
        have hAll := hA'
        have ha8 := ha9
        have hb8 := hb9
        have hx8 := hx9
        have ht8 := ht9
        have kk8 := kk9
        have hvl : 0 < vs.length := by omega
        clear eL' hA' ha9 hb9 hx9 ht9 kk9 eN
        generalize G8' = G8 at eL hAll ha8 hb8 hx8 ht8 kk8 ⊢
        -- every one of them
        refine ⟨_, rfl, L, rfl, ⟨_, SqL.of eL⟩, for_it (walk_list (K := K) (a := L) (xs := vs)) (fun j σ G' => ∃ (o9 o10 : Option V), σ = [some (.ref sa), some (.int (0 + (i : Int))), some (.ref pa), some (.ref ta), some (.int h), some (.ref tb), some (.ref L), o7, o8, o9, o10, o11] ∧ Kp [] G8 G' ∧ (0 < j → ∃ z, o10 = some (.str z))) ⟨_, _, rfl, Kp.refl _, fun z => absurd z (by decide)⟩ (fun j σ G' _ p => by obtain ⟨_, _, _, k, _⟩ := p; exact SqL.of (k.keep _ _ eL (by simp))) ?_ ?_⟩
        · rintro j x σ G' G9 hj ⟨o9, o10, rfl, k9, _⟩ ⟨rfl, hx2⟩
          obtain ⟨t, gt0⟩ := hAll x (List.mem_of_getElem? hx2)
          have gt := gt0.kp k9
          refine ⟨_, rfl, x, t.1, t.2, rfl, gt.tp, gt.g.tv, fun G10 k10 => ?_⟩
          rw [← textM_eq]
          refine ⟨_, rfl, show_ask (gt.kp k10) fun G11 k11 => ⟨_, rfl, read_ask gt.g fun u G12 k12 tu => ⟨h2s, fun p1 hp1 => ?_⟩⟩⟩
          have e1 : (upd G12 p1 (.lst [.str (textM t.1 t.2), u])) p1 = some (.lst [.str (textM t.1 t.2), u]) := upd_same
          have kp1 := Kp.new (S := []) hp1 (o := .lst [.str (textM t.1 t.2), u])
          generalize upd G12 p1 (.lst [.str (textM t.1 t.2), u]) = G13 at e1 kp1 ⊢
          refine ⟨_, rfl, _, rfl, h2s, fun p2 hp2 => ?_⟩
          have e2 : (upd G13 p2 (.lst [.str (textM t.1 t.2), x])) p2 = some (.lst [.str (textM t.1 t.2), x]) := upd_same
          have kp2 := Kp.new (S := []) hp2 (o := .lst [.str (textM t.1 t.2), x])
          have e1' := kp2.keep _ _ e1 (by simp)
          generalize upd G13 p2 (.lst [.str (textM t.1 t.2), x]) = G14 at e2 kp2 e1' ⊢
          have k914 := k10.trans (k11.trans (k12.trans (kp1.trans kp2)))
          refine ⟨.ref p1, .ref p2, .list [.str (textM t.1 t.2), tbD t.1 t.2], rfl, .lst (SqL.of e1') (.cons (.str _) (.cons (Tp.dp _ _ ((tu.kp kp1).kp kp2)) .nil)), .lst (SqL.of e2) (.cons (.str _) (.cons (Tp.dp _ _ (gt.tp.kp k914)) .nil)), ?_, ?_, by decide, ?_, fun G15 k15 => ?_⟩
          · show (true && (PyData.plain (tbD t.1 t.2) && true)) = true
            rw [plain_tb]
            rfl
          · have := depth_tb t.1 t.2
            show max 0 (max (tbD t.1 t.2).depth 0) + 1 < 8
            omega
          · have := wide_sh t.2
            have := gt.g.tv.n
            show max 2 (max 0 (max (max 2 (max 0 (max (max (t.2.map shD).length (wideAll (t.2.map shD))) 0))) 0)) ≤ 1000000
            rw [List.length_map]
            omega
          refine ⟨_, rfl, ?_⟩
          refine iteF' rfl ?_
          have k915 := k914.trans k15
          refine ⟨_, rfl, show_ask (gt.kp k915) fun G16 k16 => ⟨_, rfl, show_ask (x := .ref ta) (t := (h, ss)) ⟨ht8.kp (k9.trans (k915.trans k16)), gD⟩ fun G17 k17 => ⟨rfl, ?_⟩⟩⟩
          have k917 := k915.trans (k16.trans k17)
          refine ⟨_, rfl, _, rfl, tbD t.1 t.2, tbD h ss, Tp.dp _ _ (gt.tp.kp k917), Tp.dp _ _ (ht8.kp (k9.trans k917)), plain_tb _ _, plain_tb _ _, by have := depth_tb t.1 t.2; omega, rfl, _, rfl, ?_⟩
          refine iteF' ?_ ?_
          · rw [show decide (V.str (textM t.1 t.2) = V.str (textM (h, ss).1 (h, ss).2)) = PyData.eqv (tbD t.1 t.2) (tbD h ss) from eq_text gt.g gD, decide_eq_true rfl]
            rfl
          · exact ⟨_, _, rfl, k9.trans k917, fun _ => ⟨_, rfl⟩⟩
        · rintro σ G9 ⟨o9, o10, rfl, k9, ho⟩
          obtain ⟨z, rfl⟩ := ho hvl
          have ha9 := k9.tup _ _ ha8
          have hb9 := k9.tup _ _ hb8
          -- the other values
          refine ⟨_, rfl, _, rfl, ta, _, rfl, .inr (SqT.of ha9), fun M1 hM1 => ?_⟩
          have k1 := Kp.new (S := []) hM1 (o := .lst [.int h, .ref tb])
          have d1 : Dp K (upd G9 M1 (.lst [.int h, .ref tb])) (.ref M1) (.list [.int h, .tuple (ss.map shD)]) := .lst (SqL.of upd_same) (.cons (.int _) (.cons (.tup (SqT.of (k1.tup _ _ hb9)) (TpAll.dp _ _ ((hx8.kp k9).kp k1))) .nil))
          have hb1 := k1.tup _ _ hb9
          have hx1 := (hx8.kp k9).kp k1
          generalize upd G9 M1 (.lst [.int h, .ref tb]) = N1 at k1 d1 hb1 hx1 ⊢
          refine ⟨_, rfl, _, rfl, tb, xs, rfl, .inr (SqT.of hb1), fun M2 hM2 => ?_⟩
          have k2 := Kp.new (S := []) hM2 (o := .lst xs)
          have d2 : Dp K (upd N1 M2 (.lst xs)) (.ref M2) (.list (ss.map shD)) := .lst (SqL.of upd_same) (TpAll.dp _ _ (hx1.kp k2))
          have d1 := Dp.ext k2 _ _ d1
          generalize upd N1 M2 (.lst xs) = N2 at k2 d1 d2 ⊢
          refine ⟨h2s, fun M3 hM3 => ?_⟩
          have k3 := Kp.new (S := []) hM3 (o := .tup [.int h, .ref M2])
          have d3 : Dp K (upd N2 M3 (.tup [.int h, .ref M2])) (.ref M3) (.tuple [.int h, .list (ss.map shD)]) := .tup (SqT.of upd_same) (.cons (.int _) (.cons (Dp.ext k3 _ _ d2) .nil))
          have d1 := Dp.ext k3 _ _ d1
          generalize upd N2 M3 (.tup [.int h, .ref M2]) = N3 at k3 d1 d3 ⊢
          refine ⟨by decide, fun M4 hM4 => ⟨h2s, fun M5 hM5 => ?_⟩⟩
          obtain ⟨k4, t4⟩ := mkTup (H := N3) .nil hM4
          obtain ⟨k5, t5⟩ := mkTup (.cons (.int 0) (.cons t4 .nil)) hM5
          have k45 := k4.trans k5
          generalize upd (upd N3 M4 (.tup [])) M5 (.tup [.int 0, .ref M4]) = N5 at k45 t5 ⊢
          refine ⟨_, rfl, h2s, fun M6 hM6 => ⟨h1s, fun M7 hM7 => ⟨h2s, fun M8 hM8 => ?_⟩⟩⟩
          obtain ⟨k6, t6⟩ := mkTup (.cons (.int 0) (.cons (.int 0) .nil)) hM6
          obtain ⟨k7, t7⟩ := mkTup (.cons t6 .nil) hM7
          obtain ⟨k8, t8⟩ := mkTup (.cons (.int h) (.cons t7 .nil)) hM8
          have k68 := k6.trans (k7.trans k8)
          generalize upd (upd (upd N5 M6 (.tup [.int 0, .int 0])) M7 (.tup [.ref M6])) M8 (.tup [.int h, .ref M7]) = N8 at k68 t8 ⊢
          refine ⟨(show (8 : Nat) ≤ sizeLine by omega), fun M9 hM9 => ?_⟩
          have kM := Kp.new (S := []) hM9 (o := .lst [.non, .str "", .str z, .ref M1, .ref M3, .ref M5, .ref M8, .int 24])
          have eM : (upd N8 M9 (.lst [.non, .str "", .str z, .ref M1, .ref M3, .ref M5, .ref M8, .int 24])) M9 = some (.lst [.non, .str "", .str z, .ref M1, .ref M3, .ref M5, .ref M8, .int 24]) := upd_same
          have k58 := k68.trans kM
          have k38 := k45.trans k58
          have kAll := k9.trans (k1.trans (k2.trans (k3.trans k38)))
          have hN : ∀ v ∈ [V.non, .str "", .str z, .ref M1, .ref M3, .ref M5, .ref M8, .int 24], ∃ d, Dp K (upd N8 M9 (.lst [.non, .str "", .str z, .ref M1, .ref M3, .ref M5, .ref M8, .int 24])) v d ∧ isShapeD d = false := by
            intro v hv
            have hv : v = .non ∨ v = .str "" ∨ v = .str z ∨ v = .ref M1 ∨ v = .ref M3 ∨ v = .ref M5 ∨ v = .ref M8 ∨ v = .int 24 := by simpa using hv
            rcases hv with rfl | rfl | rfl | rfl | rfl | rfl | rfl | rfl
            · exact ⟨_, .non, rfl⟩
            · exact ⟨_, .str _, rfl⟩
            · exact ⟨_, .str _, rfl⟩
            · exact ⟨_, Dp.ext k38 _ _ d1, rfl⟩
            · exact ⟨_, Dp.ext k38 _ _ d3, isShapeD_no3 (fun xs e => nomatch e)⟩
            · exact ⟨_, Tp.dp _ _ (t5.kp k58), rfl⟩
            · refine ⟨_, Tp.dp _ _ (t8.kp kM), ?_⟩
              show (decide (1 ≤ h) && decide (h ≤ 1000) && decide (1 ≤ 24) && (((decide (0 ≤ (0 : Int)) && decide ((0 : Int) ≤ h - 1)) && (decide ((1 : Int) ≤ 0) && decide ((0 : Int) ≤ 10000))) && true)) = false
              rw [show decide ((1 : Int) ≤ 0) = false from rfl]
              simp
            · exact ⟨_, .int _, rfl⟩
          generalize upd N8 M9 (.lst [.non, .str "", .str z, .ref M1, .ref M3, .ref M5, .ref M8, .int 24]) = N9 at eM hN kAll ⊢
          generalize [V.non, .str "", .str z, .ref M1, .ref M3, .ref M5, .ref M8, .int 24] = ws at eM hN
          refine ⟨M9, rfl, ⟨_, SqL.of eM⟩, for_it (walk_list (K := K) (a := M9) (xs := ws)) (fun j σ G' => ∃ (o11' : Option V), σ = [some (.ref sa), some (.int (0 + (i : Int))), some (.ref pa), some (.ref ta), some (.int h), some (.ref tb), some (.ref L), o7, o8, o9, some (.str z), o11'] ∧ Kp [] N9 G') ⟨_, rfl, Kp.refl _⟩ (fun j σ G' _ p => by obtain ⟨_, _, k⟩ := p; exact SqL.of (k.keep _ _ eM (by simp))) ?_ ?_⟩
          · rintro j x σ G' G10 hj ⟨o11', rfl, k10⟩ ⟨rfl, hx2⟩
            obtain ⟨d, hd, hs⟩ := hN x (List.mem_of_getElem? hx2)
            refine ⟨_, rfl, x, rfl, .inr ⟨d, Dp.ext k10 _ _ hd, hs⟩, fun G11 k11 => ?_⟩
            refine ⟨rfl, _, rfl, ?_⟩
            refine iteF' (by rw [decide_eq_true rfl]; rfl) ?_
            exact ⟨_, rfl, k10.trans k11⟩
          · rintro σ G10 ⟨o11', rfl, k10⟩
            exact ⟨_, _, _, _, _, _, _, _, _, _, _, rfl, kk8.trans (kAll.trans k10)⟩
      · rw [List.concat_eq_append] at e
        refine iteT' (by rw [e]; cases l <;> rfl) ?_
        have hxe := hx9
        rw [e, List.map_append] at hxe
        obtain ⟨v, hat, tv⟩ := at_last hxe
        obtain ⟨c, rfl, hc⟩ := tp_ship tv
        refine ⟨_, rfl, 1, rfl, tb, xs, -1, _, rfl, rfl, SqT.of hb9, hat, ?_⟩
        refine ⟨c, _, rfl, SqT.of hc, rfl, _, _, rfl, _, _, rfl, rfl, ?_⟩
        refine ⟨_, rfl, .inl ⟨rfl, _, SqL.of eL'⟩, ?_⟩
        refine ⟨_, rfl, _, rfl, 1, rfl, -1, rfl, slA_drop hb9 hx9 fun q3 Ga ka tqa => ?_⟩
        refine ⟨_, rfl, _, rfl, _, _, rfl, rfl, _, _, rfl, h2s, fun U1 hU1 => ⟨h1s, fun U2 hU2 => ?_⟩⟩
        obtain ⟨cc, hcc, hc1, hcb⟩ : ∃ cc : Int, cc = (if b - 1 > 1 then b - 1 else 1) ∧ 1 ≤ cc ∧ cc ≤ b := by
          have hb1 : 1 ≤ b := (dT.sh (a, b) (by rw [e]; simp)).2.2.1
          refine ⟨_, rfl, ?_, ?_⟩ <;> split <;> omega
        rw [← hcc] at hU2 ⊢
        obtain ⟨ku1, tu1⟩ := mkTup (.cons (.int a) (.cons (.int cc) .nil)) hU1
        obtain ⟨ku2, tu2⟩ := mkTup (.cons tu1 .nil) hU2
        have eU2 : (upd (upd Ga U1 (.tup [.int a, .int cc])) U2 (.tup [.ref U1])) U2 = some (.tup [.ref U1]) := upd_same
        have ku12 := ku1.trans ku2
        have tu1' := tu1.kp ku2
        refine catA_ask (tqa.kp ku12) eU2 (.cons tu1' .nil) (by simp) (by rw [List.length_dropLast, List.length_map]; have := gD.tv.n; simp; omega) fun q4 Gb kb tb4 => ?_
        refine ⟨h2s, fun T5 hT5 => ?_⟩
        obtain ⟨kt5, tt5⟩ := mkTup (.cons (.int h) (.cons tb4 .nil)) hT5
        have k9c := ka.trans (ku12.trans (kb.trans kt5))
        have eLc := k9c.keep _ _ eL' (by simp)
        generalize upd Gb T5 (.tup [.int h, .ref q4]) = Gc at tt5 k9c eLc ⊢
        refine ⟨L, _, _, rfl, rfl, eLc, by omega, ?_⟩
        have kw : Kp [L] Gc (upd Gc L (.lst (vs ++ [.ref T5]))) := (Kp.refl _).put (by simp) eLc lst_nt
        have eL : (upd Gc L (.lst (vs ++ [.ref T5]))) L = some (.lst (vs ++ [.ref T5])) := upd_same
        have k9w : Kp [L] G8' (upd Gc L (.lst (vs ++ [.ref T5]))) := (k9c.mono (by simp)).trans kw
        have kk8 : Kp [] H (upd Gc L (.lst (vs ++ [.ref T5]))) := ((kk9.mono (S' := [L]) (by simp)).trans k9w).less (fun b hb => .inr (by rw [show b = L by simpa using hb]; exact hL0))
        have hAll : ∀ v ∈ vs ++ [.ref T5], ∃ t, TabG (upd Gc L (.lst (vs ++ [.ref T5]))) v t := fun v hv => by
          rcases List.mem_append.mp hv with hv | hv
          · obtain ⟨t, g⟩ := hA' v hv
            exact ⟨t, g.kp k9w⟩
          · rw [show v = .ref T5 by simpa using hv]
            refine ⟨(h, l ++ [(a, cc)]), ?_, ?_⟩
            · have z := tt5.kp kw
              rw [e, List.map_append] at z
              show Tp _ _ (.tuple [.int h, .tuple ((l ++ [(a, cc)]).map shD)])
              rw [List.map_append]
              rw [show List.map shD [(a, b)] = [shD (a, b)] from rfl, List.dropLast_concat] at z
              exact z
            · rw [e] at dT
              exact dT.good_last h1 h2 (by decide) hc1 hcb
        have ha8 := k9w.tup _ _ ha9
        have hb8 := k9w.tup _ _ hb9
        have hx8 := hx9.kp k9w
        have ht8 := ht9.kp k9w
        have hvl : 0 < (vs ++ [V.ref T5]).length := by simp
        clear eL' hA' ha9 hb9 hx9 ht9 kk9 eN kw k9w eLc
        generalize upd Gc L (.lst (vs ++ [.ref T5])) = G8 at eL hAll ha8 hb8 hx8 ht8 kk8 ⊢
        clear hl5
        generalize vs ++ [V.ref T5] = vs at eL hAll hvl
        clear e hxe
        -- every one of them
        refine ⟨_, rfl, L, rfl, ⟨_, SqL.of eL⟩, for_it (walk_list (K := K) (a := L) (xs := vs)) (fun j σ G' => ∃ (o9 o10 : Option V), σ = [some (.ref sa), some (.int (0 + (i : Int))), some (.ref pa), some (.ref ta), some (.int h), some (.ref tb), some (.ref L), (some (.int a)), (some (.int b)), o9, o10, o11] ∧ Kp [] G8 G' ∧ (0 < j → ∃ z, o10 = some (.str z))) ⟨_, _, rfl, Kp.refl _, fun z => absurd z (by decide)⟩ (fun j σ G' _ p => by obtain ⟨_, _, _, k, _⟩ := p; exact SqL.of (k.keep _ _ eL (by simp))) ?_ ?_⟩
        · rintro j x σ G' G9 hj ⟨o9, o10, rfl, k9, _⟩ ⟨rfl, hx2⟩
          obtain ⟨t, gt0⟩ := hAll x (List.mem_of_getElem? hx2)
          have gt := gt0.kp k9
          refine ⟨_, rfl, x, t.1, t.2, rfl, gt.tp, gt.g.tv, fun G10 k10 => ?_⟩
          rw [← textM_eq]
          refine ⟨_, rfl, show_ask (gt.kp k10) fun G11 k11 => ⟨_, rfl, read_ask gt.g fun u G12 k12 tu => ⟨h2s, fun p1 hp1 => ?_⟩⟩⟩
          have e1 : (upd G12 p1 (.lst [.str (textM t.1 t.2), u])) p1 = some (.lst [.str (textM t.1 t.2), u]) := upd_same
          have kp1 := Kp.new (S := []) hp1 (o := .lst [.str (textM t.1 t.2), u])
          generalize upd G12 p1 (.lst [.str (textM t.1 t.2), u]) = G13 at e1 kp1 ⊢
          refine ⟨_, rfl, _, rfl, h2s, fun p2 hp2 => ?_⟩
          have e2 : (upd G13 p2 (.lst [.str (textM t.1 t.2), x])) p2 = some (.lst [.str (textM t.1 t.2), x]) := upd_same
          have kp2 := Kp.new (S := []) hp2 (o := .lst [.str (textM t.1 t.2), x])
          have e1' := kp2.keep _ _ e1 (by simp)
          generalize upd G13 p2 (.lst [.str (textM t.1 t.2), x]) = G14 at e2 kp2 e1' ⊢
          have k914 := k10.trans (k11.trans (k12.trans (kp1.trans kp2)))
          refine ⟨.ref p1, .ref p2, .list [.str (textM t.1 t.2), tbD t.1 t.2], rfl, .lst (SqL.of e1') (.cons (.str _) (.cons (Tp.dp _ _ ((tu.kp kp1).kp kp2)) .nil)), .lst (SqL.of e2) (.cons (.str _) (.cons (Tp.dp _ _ (gt.tp.kp k914)) .nil)), ?_, ?_, by decide, ?_, fun G15 k15 => ?_⟩
          · show (true && (PyData.plain (tbD t.1 t.2) && true)) = true
            rw [plain_tb]
            rfl
          · have := depth_tb t.1 t.2
            show max 0 (max (tbD t.1 t.2).depth 0) + 1 < 8
            omega
          · have := wide_sh t.2
            have := gt.g.tv.n
            show max 2 (max 0 (max (max 2 (max 0 (max (max (t.2.map shD).length (wideAll (t.2.map shD))) 0))) 0)) ≤ 1000000
            rw [List.length_map]
            omega
          refine ⟨_, rfl, ?_⟩
          refine iteF' rfl ?_
          have k915 := k914.trans k15
          refine ⟨_, rfl, show_ask (gt.kp k915) fun G16 k16 => ⟨_, rfl, show_ask (x := .ref ta) (t := (h, ss)) ⟨ht8.kp (k9.trans (k915.trans k16)), gD⟩ fun G17 k17 => ⟨rfl, ?_⟩⟩⟩
          have k917 := k915.trans (k16.trans k17)
          refine ⟨_, rfl, _, rfl, tbD t.1 t.2, tbD h ss, Tp.dp _ _ (gt.tp.kp k917), Tp.dp _ _ (ht8.kp (k9.trans k917)), plain_tb _ _, plain_tb _ _, by have := depth_tb t.1 t.2; omega, rfl, _, rfl, ?_⟩
          refine iteF' ?_ ?_
          · rw [show decide (V.str (textM t.1 t.2) = V.str (textM (h, ss).1 (h, ss).2)) = PyData.eqv (tbD t.1 t.2) (tbD h ss) from eq_text gt.g gD, decide_eq_true rfl]
            rfl
          · exact ⟨_, _, rfl, k9.trans k917, fun _ => ⟨_, rfl⟩⟩
        · rintro σ G9 ⟨o9, o10, rfl, k9, ho⟩
          obtain ⟨z, rfl⟩ := ho hvl
          have ha9 := k9.tup _ _ ha8
          have hb9 := k9.tup _ _ hb8
          -- the other values
          refine ⟨_, rfl, _, rfl, ta, _, rfl, .inr (SqT.of ha9), fun M1 hM1 => ?_⟩
          have k1 := Kp.new (S := []) hM1 (o := .lst [.int h, .ref tb])
          have d1 : Dp K (upd G9 M1 (.lst [.int h, .ref tb])) (.ref M1) (.list [.int h, .tuple (ss.map shD)]) := .lst (SqL.of upd_same) (.cons (.int _) (.cons (.tup (SqT.of (k1.tup _ _ hb9)) (TpAll.dp _ _ ((hx8.kp k9).kp k1))) .nil))
          have hb1 := k1.tup _ _ hb9
          have hx1 := (hx8.kp k9).kp k1
          generalize upd G9 M1 (.lst [.int h, .ref tb]) = N1 at k1 d1 hb1 hx1 ⊢
          refine ⟨_, rfl, _, rfl, tb, xs, rfl, .inr (SqT.of hb1), fun M2 hM2 => ?_⟩
          have k2 := Kp.new (S := []) hM2 (o := .lst xs)
          have d2 : Dp K (upd N1 M2 (.lst xs)) (.ref M2) (.list (ss.map shD)) := .lst (SqL.of upd_same) (TpAll.dp _ _ (hx1.kp k2))
          have d1 := Dp.ext k2 _ _ d1
          generalize upd N1 M2 (.lst xs) = N2 at k2 d1 d2 ⊢
          refine ⟨h2s, fun M3 hM3 => ?_⟩
          have k3 := Kp.new (S := []) hM3 (o := .tup [.int h, .ref M2])
          have d3 : Dp K (upd N2 M3 (.tup [.int h, .ref M2])) (.ref M3) (.tuple [.int h, .list (ss.map shD)]) := .tup (SqT.of upd_same) (.cons (.int _) (.cons (Dp.ext k3 _ _ d2) .nil))
          have d1 := Dp.ext k3 _ _ d1
          generalize upd N2 M3 (.tup [.int h, .ref M2]) = N3 at k3 d1 d3 ⊢
          refine ⟨by decide, fun M4 hM4 => ⟨h2s, fun M5 hM5 => ?_⟩⟩
          obtain ⟨k4, t4⟩ := mkTup (H := N3) .nil hM4
          obtain ⟨k5, t5⟩ := mkTup (.cons (.int 0) (.cons t4 .nil)) hM5
          have k45 := k4.trans k5
          generalize upd (upd N3 M4 (.tup [])) M5 (.tup [.int 0, .ref M4]) = N5 at k45 t5 ⊢
          refine ⟨_, rfl, h2s, fun M6 hM6 => ⟨h1s, fun M7 hM7 => ⟨h2s, fun M8 hM8 => ?_⟩⟩⟩
          obtain ⟨k6, t6⟩ := mkTup (.cons (.int 0) (.cons (.int 0) .nil)) hM6
          obtain ⟨k7, t7⟩ := mkTup (.cons t6 .nil) hM7
          obtain ⟨k8, t8⟩ := mkTup (.cons (.int h) (.cons t7 .nil)) hM8
          have k68 := k6.trans (k7.trans k8)
          generalize upd (upd (upd N5 M6 (.tup [.int 0, .int 0])) M7 (.tup [.ref M6])) M8 (.tup [.int h, .ref M7]) = N8 at k68 t8 ⊢
          refine ⟨(show (8 : Nat) ≤ sizeLine by omega), fun M9 hM9 => ?_⟩
          have kM := Kp.new (S := []) hM9 (o := .lst [.non, .str "", .str z, .ref M1, .ref M3, .ref M5, .ref M8, .int 24])
          have eM : (upd N8 M9 (.lst [.non, .str "", .str z, .ref M1, .ref M3, .ref M5, .ref M8, .int 24])) M9 = some (.lst [.non, .str "", .str z, .ref M1, .ref M3, .ref M5, .ref M8, .int 24]) := upd_same
          have k58 := k68.trans kM
          have k38 := k45.trans k58
          have kAll := k9.trans (k1.trans (k2.trans (k3.trans k38)))
          have hN : ∀ v ∈ [V.non, .str "", .str z, .ref M1, .ref M3, .ref M5, .ref M8, .int 24], ∃ d, Dp K (upd N8 M9 (.lst [.non, .str "", .str z, .ref M1, .ref M3, .ref M5, .ref M8, .int 24])) v d ∧ isShapeD d = false := by
            intro v hv
            have hv : v = .non ∨ v = .str "" ∨ v = .str z ∨ v = .ref M1 ∨ v = .ref M3 ∨ v = .ref M5 ∨ v = .ref M8 ∨ v = .int 24 := by simpa using hv
            rcases hv with rfl | rfl | rfl | rfl | rfl | rfl | rfl | rfl
            · exact ⟨_, .non, rfl⟩
            · exact ⟨_, .str _, rfl⟩
            · exact ⟨_, .str _, rfl⟩
            · exact ⟨_, Dp.ext k38 _ _ d1, rfl⟩
            · exact ⟨_, Dp.ext k38 _ _ d3, isShapeD_no3 (fun xs e => nomatch e)⟩
            · exact ⟨_, Tp.dp _ _ (t5.kp k58), rfl⟩
            · refine ⟨_, Tp.dp _ _ (t8.kp kM), ?_⟩
              show (decide (1 ≤ h) && decide (h ≤ 1000) && decide (1 ≤ 24) && (((decide (0 ≤ (0 : Int)) && decide ((0 : Int) ≤ h - 1)) && (decide ((1 : Int) ≤ 0) && decide ((0 : Int) ≤ 10000))) && true)) = false
              rw [show decide ((1 : Int) ≤ 0) = false from rfl]
              simp
            · exact ⟨_, .int _, rfl⟩
          generalize upd N8 M9 (.lst [.non, .str "", .str z, .ref M1, .ref M3, .ref M5, .ref M8, .int 24]) = N9 at eM hN kAll ⊢
          generalize [V.non, .str "", .str z, .ref M1, .ref M3, .ref M5, .ref M8, .int 24] = ws at eM hN
          refine ⟨M9, rfl, ⟨_, SqL.of eM⟩, for_it (walk_list (K := K) (a := M9) (xs := ws)) (fun j σ G' => ∃ (o11' : Option V), σ = [some (.ref sa), some (.int (0 + (i : Int))), some (.ref pa), some (.ref ta), some (.int h), some (.ref tb), some (.ref L), (some (.int a)), (some (.int b)), o9, some (.str z), o11'] ∧ Kp [] N9 G') ⟨_, rfl, Kp.refl _⟩ (fun j σ G' _ p => by obtain ⟨_, _, k⟩ := p; exact SqL.of (k.keep _ _ eM (by simp))) ?_ ?_⟩
          · rintro j x σ G' G10 hj ⟨o11', rfl, k10⟩ ⟨rfl, hx2⟩
            obtain ⟨d, hd, hs⟩ := hN x (List.mem_of_getElem? hx2)
            refine ⟨_, rfl, x, rfl, .inr ⟨d, Dp.ext k10 _ _ hd, hs⟩, fun G11 k11 => ?_⟩
            refine ⟨rfl, _, rfl, ?_⟩
            refine iteF' (by rw [decide_eq_true rfl]; rfl) ?_
            exact ⟨_, rfl, k10.trans k11⟩
          · rintro σ G10 ⟨o11', rfl, k10⟩
            exact ⟨_, _, _, _, _, _, _, _, _, _, _, rfl, kk8.trans (kAll.trans k10)⟩
    · rintro σ G ⟨o1, o2, o3, o4, o5, o6, o7, o8, o9, o10, o11, rfl, k0⟩
      exact q G
end
end Ba

set_option maxHeartbeats 400000
namespace Ba
open PySem PySem.Spec PyProof.Rows L2
/-! ### the head's facts, with more of one's own -/
abbrev AlX : Type := He.AlD × Bool
def obsX (fa : List He.Fa) (fn : List He.DefD) (ex : PySem.W.Frag → Bool) (K : PySem.W.Frag) : AlX := (He.obsD fa fn K, ex K)
def SaysX (fa : List He.Fa) (fn : List He.DefD) (ex : PySem.W.Frag → Bool) (K : PySem.W.Frag) : Prop := obsX fa fn ex K = (He.valD fn, true)
def obsXG (n : Nat) (fa : List He.Fa) (fn : List He.DefD) (ex : PySem.W.Frag → Bool) (g : Addr → Option Obj) : AlX := obsX fa fn ex (He.frG g (He.asD g n))
def hookX (n : Nat) (fa : List He.Fa) (fn : List He.DefD) (ex : PySem.W.Frag → Bool) : PySem.W.Hook where
  α := AlX
  obs := fun s => obsXG n fa fn ex s.heap.get?
  val := fun _ => (He.valD fn, true)
  says := fun _ h => ∃ K : PySem.W.Frag, K.In h ∧ SaysX fa fn ex K
  of := fun _ _ e => ⟨_, He.frG_in, e⟩
  keeps := fun _ _ _ ⟨K, hK, c⟩ k => ⟨K, PySem.W.Frag.In.keeps hK k, c⟩
theorem obsXG_eq {n : Nat} {fa : List He.Fa} {fn : List He.DefD} {ex : PySem.W.Frag → Bool} {g : Addr → Option Obj} {s : Shared} (h : ∀ a, g a = s.heap.get? a) : obsXG n fa fn ex g = (hookX n fa fn ex).obs s := by
  have e : g = s.heap.get? := funext h
  rw [e] <;> rfl
theorem SaysX.d {fa : List He.Fa} {fn : List He.DefD} {ex : PySem.W.Frag → Bool} {K : PySem.W.Frag} (c : SaysX fa fn ex K) : He.SaysD fa fn K := congrArg (fun z : AlX => z.1) c
theorem SaysX.e {fa : List He.Fa} {fn : List He.DefD} {ex : PySem.W.Frag → Bool} {K : PySem.W.Frag} (c : SaysX fa fn ex K) : ex K = true := congrArg (fun z : AlX => z.2) c
end Ba

set_option maxHeartbeats 400000
namespace Ba
open PySem PySem.Spec PyProof.Rows L2
/-- isinstance of an own exception, in the head -/
def excCB (K : PySem.W.Frag) (D : Addr) : Bool := He.eqO (PySem.W.findIn K (.ref D) "__getattribute__") (some (some (.builtin "BaseException.__getattribute__"))) && (He.eqO (PySem.W.findIn K (.ref D) "__getattr__") (some none) && (decide (PySem.W.subIn K (.ref D) (.type "BaseException") = some true) && (PySem.W.hasDictIn K D &&
  (He.eqO (PySem.W.findIn K (.ref D) "__class__") (some (some (.builtin "object.__class__"))) && (He.eqO (PySem.W.specialIn K (.builtin "object.__class__") "__get__") (some (some (.builtin "getset_descriptor.__get__"))) &&
  (decide (PySem.W.takesIn K (.builtin "object.__class__") = some true) && decide (PySem.W.mroIn K D (.type "object") = some true)))))))
theorem excCB_ok {K : PySem.W.Frag} {D : Addr} (h : excCB K D = true) : ExcC K D := by
  obtain ⟨h1, h⟩ := He.ba h
  obtain ⟨h2, h⟩ := He.ba h
  obtain ⟨h3, h⟩ := He.ba h
  obtain ⟨h4, h⟩ := He.ba h
  obtain ⟨h5, h⟩ := He.ba h
  obtain ⟨h6, h⟩ := He.ba h
  obtain ⟨h7, h8⟩ := He.ba h
  exact ⟨He.eqO_ok h1, He.eqO_ok h2, of_decide_eq_true h3, h4, He.eqO_ok h5, He.eqO_ok h6, of_decide_eq_true h7, of_decide_eq_true h8⟩
def kindAll (K : PySem.W.Frag) (D : Addr) (i : Nat) : Nat → List Str → Bool
  | _, [] => true
  | j, x :: r => decide (PySem.W.kitOne K (.ref D) (.ref (He.ga K x)) = some (decide (j = i))) && kindAll K D i (j + 1) r
theorem kindAll_ok {K : PySem.W.Frag} {D : Addr} {i : Nat} : ∀ (l : List Str) (n : Nat), kindAll K D i n l = true → ∀ (j : Nat) (x : Str), l[j]? = some x → PySem.W.kitOne K (.ref D) (.ref (He.ga K x)) = some (decide (n + j = i))
  | [], _, _, j, x, e => by simp at e
  | y :: r, n, h, 0, x, e => by
    obtain ⟨h1, _⟩ := He.ba h
    have e : y = x := by simpa using e
    subst e
    exact of_decide_eq_true h1
  | y :: r, n, h, j + 1, x, e => by
    obtain ⟨_, h2⟩ := He.ba h
    have z := kindAll_ok r (n + 1) h2 j x (by simpa using e)
    rw [show n + (j + 1) = n + 1 + j by omega]
    exact z
/-- the class x is the i-th of the package's exceptions, and is caught by BerthError's clause -/
structure KindX (K : PySem.W.Frag) (D : Addr) (i : Nat) (CB : Addr) : Prop where
  c : KindC K (He.ga K) D i
  m : PySem.W.exmOne K (.ref D) (.ref CB) = some true
def kindB (x : Str) (i : Nat) (K : PySem.W.Frag) : Bool := excCB K (He.ga K x) && (kindAll K (He.ga K x) i 0 kindN && (decide (PySem.W.kitOne K (.ref (He.ga K x)) (.type "ValueError") = some true) && decide (PySem.W.exmOne K (.ref (He.ga K x)) (.ref (He.ga K "BerthError")) = some true)))
theorem kindB_ok {x : Str} {i : Nat} {K : PySem.W.Frag} (h : kindB x i K = true) : KindX K (He.ga K x) i (He.ga K "BerthError") := by
  obtain ⟨h1, h⟩ := He.ba h
  obtain ⟨h2, h⟩ := He.ba h
  obtain ⟨h3, h4⟩ := He.ba h
  refine ⟨⟨excCB_ok h1, fun j y e => ?_, of_decide_eq_true h3⟩, of_decide_eq_true h4⟩
  have z := kindAll_ok kindN 0 h2 j y e
  rw [Nat.zero_add] at z
  exact z
end Ba

set_option maxHeartbeats 0
namespace Ba
open PySem PySem.Spec PyProof.Rows L2

def d_is_int : He.DefD := ⟨("is_int", none), "is_int", "is_int", defArgs s_is_int, defBody s_is_int, defScope s_is_int, [], []⟩
def d_in_range : He.DefD := ⟨("in_range", none), "in_range", "in_range", defArgs s_in_range, defBody s_in_range, defScope s_in_range, [], []⟩
def d_is_ship : He.DefD := ⟨("is_ship", none), "is_ship", "is_ship", defArgs s_is_ship, defBody s_is_ship, defScope s_is_ship, [], []⟩
def d_day_events : He.DefD := ⟨("day_events", none), "day_events", "day_events", defArgs s_day_events, defBody s_day_events, defScope s_day_events, [], []⟩
def d_count_at_midnight : He.DefD := ⟨("count_at_midnight", none), "count_at_midnight", "count_at_midnight", defArgs s_count_at_midnight, defBody s_count_at_midnight, defScope s_count_at_midnight, [], []⟩
def d_counts : He.DefD := ⟨("counts", none), "counts", "counts", defArgs s_counts, defBody s_counts, defScope s_counts, [], []⟩
def d_peak_of : He.DefD := ⟨("peak_of", none), "peak_of", "peak_of", defArgs s_peak_of, defBody s_peak_of, defScope s_peak_of, [], []⟩
def d_is_table : He.DefD := ⟨("is_table", none), "is_table", "is_table", defArgs s_is_table, defBody s_is_table, defScope s_is_table, [], []⟩
def d_require_table : He.DefD := ⟨("require_table", none), "require_table", "require_table", defArgs s_require_table, defBody s_require_table, defScope s_require_table, [], []⟩
def d_parse_number : He.DefD := ⟨("parse_number", none), "parse_number", "parse_number", defArgs s_parse_number, defBody s_parse_number, defScope s_parse_number, [], []⟩
def d_parse_line : He.DefD := ⟨("parse_line", none), "parse_line", "parse_line", defArgs s_parse_line, defBody s_parse_line, defScope s_parse_line, [], []⟩
def d_show_table : He.DefD := ⟨("show_table", none), "show_table", "show_table", defArgs s_show_table, defBody s_show_table, defScope s_show_table, [], []⟩
def d_read_table : He.DefD := ⟨("read_table", none), "read_table", "read_table", defArgs s_read_table, defBody s_read_table, defScope s_read_table, [], []⟩
def d__law_pail : He.DefD := ⟨("_law_pail", none), "_law_pail", "_law_pail", defArgs s__law_pail, defBody s__law_pail, defScope s__law_pail, [], []⟩
def d__law_dip : He.DefD := ⟨("_law_dip", none), "_law_dip", "_law_dip", defArgs s__law_dip, defBody s__law_dip, defScope s__law_dip, [], []⟩
def d__law_hours : He.DefD := ⟨("_law_hours", none), "_law_hours", "_law_hours", defArgs s__law_hours, defBody s__law_hours, defScope s__law_hours, [], []⟩
def d__law_table : He.DefD := ⟨("_law_table", none), "_law_table", "_law_table", defArgs s__law_table, defBody s__law_table, defScope s__law_table, [], []⟩
def d__law_peak : He.DefD := ⟨("_law_peak", none), "_law_peak", "_law_peak", defArgs s__law_peak, defBody s__law_peak, defScope s__law_peak, [], []⟩
def d__law_policy : He.DefD := ⟨("_law_policy", none), "_law_policy", "_law_policy", defArgs s__law_policy, defBody s__law_policy, defScope s__law_policy, [], []⟩
def d__law_start : He.DefD := ⟨("_law_start", none), "_law_start", "_law_start", defArgs s__law_start, defBody s__law_start, defScope s__law_start, [], []⟩
def d__law_same : He.DefD := ⟨("_law_same", none), "_law_same", "_law_same", defArgs s__law_same, defBody s__law_same, defScope s__law_same, [], []⟩
def d__law_kind : He.DefD := ⟨("_law_kind", none), "_law_kind", "_law_kind", defArgs s__law_kind, defBody s__law_kind, defScope s__law_kind, [], []⟩
def d__law_text : He.DefD := ⟨("_law_text", none), "_law_text", "_law_text", defArgs s__law_text, defBody s__law_text, defScope s__law_text, [], []⟩
def d__law_shown : He.DefD := ⟨("_law_shown", none), "_law_shown", "_law_shown", defArgs s__law_shown, defBody s__law_shown, defScope s__law_shown, [], []⟩
def d_law : He.DefD := ⟨("law", none), "law", "law", defArgs s_law, defBody s_law, defScope s_law, [], []⟩
def fn0 : List He.DefD := [d_is_int, d_in_range, d_is_ship, d_day_events, d_count_at_midnight, d_counts, d_peak_of, d_is_table, d_require_table, d_parse_number, d_parse_line, d_show_table, d_read_table, d__law_pail, d__law_dip, d__law_hours, d__law_table, d__law_peak, d__law_policy, d__law_start, d__law_same, d__law_kind, d__law_text, d__law_shown, d_law]
def fn : List He.DefD := fn0
def fa0 : List He.Fa := [.glo "is_int", .glo "in_range", .glo "is_ship", .glo "day_events", .glo "count_at_midnight", .glo "counts", .glo "peak_of", .glo "is_table", .glo "require_table", .glo "parse_number", .glo "parse_line", .glo "show_table", .glo "read_table", .glo "_law_pail", .glo "_law_dip", .glo "_law_hours", .glo "_law_table", .glo "_law_peak", .glo "_law_policy", .glo "_law_start", .glo "_law_same", .glo "_law_kind", .glo "_law_text", .glo "_law_shown", .glo "law", .glo "BerthError", .glo "NoTable", .glo "NoHour", .glo "NoPolicy", .glo "NoStart"]
def fa1 : List He.Fa := [.glo "NoDays", .glo "NoShip", .glo "NoBerth", .glo "NoMap", .glo "NoPlan", .glo "NoNumber", .glo "NoExchange", .glo "NoChanges", .glo "Nothing", .glo "NoText", .glo "NoRow", .glo "NoRoom", .glo "TooLong", .free "isinstance", .free "len", .free "max", .free "min", .free "sorted", .free "all", .free "divmod", .free "sum", .free "int", .free "bool", .free "tuple", .free "str", .free "list", .free "dict", .free "range", .free "enumerate", .free "zip"]
def fa2 : List He.Fa := [.free "repr", .free "ValueError", .int "MOST_HOURS" 1000, .int "MOST_SHIPS" 24, .int "MOST_STAY" 10000, .int "MOST_PEAK" 60, .int "DEPARTURE" 0, .int "ARRIVAL" 1, .int "MAX_DIGITS" 5, .str "DIGITS" "0123456789", .exc "BerthError", .exc "NoTable", .exc "NoHour", .exc "NoPolicy", .exc "NoStart", .exc "NoDays", .exc "NoShip", .exc "NoBerth", .exc "NoMap", .exc "NoPlan", .exc "NoNumber", .exc "NoExchange", .exc "NoChanges", .exc "Nothing", .exc "NoText", .exc "NoRow"]
def fa : List He.Fa := fa0 ++ fa1 ++ fa2
def lo0 : List PySem.Str := ["BerthError", "NoTable", "NoHour", "NoPolicy", "NoStart", "NoDays", "NoShip", "NoBerth", "NoMap", "NoPlan", "NoNumber", "NoExchange", "NoChanges", "NoRoom", "TooLong", "Nothing", "NoText", "NoRow", "MOST_HOURS", "MOST_SHIPS", "MOST_STAY", "MOST_PEAK", "DEPARTURE", "ARRIVAL", "is_int", "in_range", "is_ship", "day_events", "count_at_midnight", "counts"]
def lo1 : List PySem.Str := ["peak_of", "is_table", "require_table", "DIGITS", "MAX_DIGITS", "parse_number", "parse_line", "show_table", "read_table", "_law_pail", "_law_dip", "_law_hours", "_law_table", "_law_peak", "_law_policy", "_law_start", "_law_same", "_law_kind", "_law_text", "_law_shown"]
abbrev R : PySem.W.OpenRow := PySem.W.OpenLaw.row PySem.Challenge.rw_berths_k57_timetables_as_text
def loose : List PySem.Str := lo0 ++ lo1
def exB (K : PySem.W.Frag) : Bool := kindB "NoTable" 0 K && (true)
abbrev hk : PySem.W.Hook := hookX 6 fa fn exB
def ob (s : PySem.W.SharedT) : AlX := obsXG 6 fa fn exB (HandSHeadRun.getT s)
theorem ob_eq (s : PySem.W.SharedT) : ob s = hk.obs s.abs := obsXG_eq (HandSHeadRun.getT_eq s)
theorem run (w : World) : HandSHeadRun.RunEq R (PySem.W.view R.prog [54]) hk ob 8000 loose w := by
  intro os
  kernel_rfl
end Ba

set_option maxHeartbeats 0
namespace Ba
open PySem PySem.Spec PyProof.Rows L2
/-- the walk of the law, raises told by L2N.CX -/
theorem walk_w {l : PySem.W.OpenLaw} {n k : Nat} {q : Program} {loose : List Str} {XP : (Str → Option Value) → Heap → Prop} {YP : World → Heap → Prop} {d : DefRec} {x : Str}
    (hn : l.most = some n) (hn2 : n ≤ sizeLine) (hdf : d.params.defaults = []) (hr : L2.Room k callerA)
    (F : ∀ (w : World) (mg : Str → Option Value) (fa : Addr) (h : Heap), YP w h → h.Ns mainGlobals mg → mg d.name = some (.ref fa) →
      ∃ (K : PySem.W.Frag) (fd : FuncData) (sp : Sp), K.In h ∧ (∀ (s : Shared) (u : Value), BindsTo s fd ⟨[u], []⟩ [(x, u)]) ∧
        (∀ (H : Hp) (a : Addr) (ns : List Int), ns.length ≤ n → Only H → SqL K H a (ns.map V.int) → sp [.ref a] H (fun v _ => v = .bl true) fun _ _ _ => False) ∧
        ∀ base : Heap, K.In base → base.Ns mainGlobals mg → FnOk l.prog w K mg base (L2N.CX l.prog w) k fa fd [x] sp) :
    PySem.W.WalkO q loose XP YP l.row.toRowW d [] (fun f vs => PySem.call f vs) := by
  refine Att.attach_call hn hdf fun w s₀ s₁ mg mb fa o pm cd doc a vs ns G Y ho hd hcd hmg hobj hints hlen hg => ?_
  obtain ⟨K, fd, sp, KX, hb, hsp, hF⟩ := F w mg fa _ Y G.T.g hmg
  exact law_call KX G.T.g G.T.b G.T.builtins G.T.nolimit hg hobj hints (Nat.le_trans hlen hn2) hr hF hb (fun H hO hS => hsp H a ns hlen hO hS) fun H e s' z => by
    obtain ⟨_, _, _, _, _, _, _, _, _, _, _, _, z⟩ := z
    exact z
theorem law_facts {P : Program} {w : World} {K : PySem.W.Frag} {h : Heap} {mg : Str → Option Value} {f : Addr} (X : K.In h) (G : h.Ns mainGlobals mg) (hfa : mg ("law" : Str) = some (.ref f)) (cX : SaysX fa fn exB K) :
    ∃ fd : FuncData, (∀ (s : Shared) (v : Value), BindsTo s fd ⟨[v], []⟩ [("_law_script", v)]) ∧ ∀ base : Heap, K.In base → base.Ns mainGlobals mg → FnOk P w K mg base (L2N.CX P w) 9 f fd p_law (spLaw K) := by
  have c := cX.d
  have cE := cX.e
  obtain ⟨X_NoTable, cE⟩ := He.ba cE
  have X_NoTable : KindX K (He.ga K "NoTable") 0 (He.ga K "BerthError") := kindB_ok X_NoTable
  obtain ⟨fd_is_int, F_is_int⟩ := c.def_ 0 (d := d_is_int) rfl
  obtain ⟨fd_in_range, F_in_range⟩ := c.def_ 1 (d := d_in_range) rfl
  obtain ⟨fd_is_ship, F_is_ship⟩ := c.def_ 2 (d := d_is_ship) rfl
  obtain ⟨fd_day_events, F_day_events⟩ := c.def_ 3 (d := d_day_events) rfl
  obtain ⟨fd_count_at_midnight, F_count_at_midnight⟩ := c.def_ 4 (d := d_count_at_midnight) rfl
  obtain ⟨fd_counts, F_counts⟩ := c.def_ 5 (d := d_counts) rfl
  obtain ⟨fd_peak_of, F_peak_of⟩ := c.def_ 6 (d := d_peak_of) rfl
  obtain ⟨fd_is_table, F_is_table⟩ := c.def_ 7 (d := d_is_table) rfl
  obtain ⟨fd_require_table, F_require_table⟩ := c.def_ 8 (d := d_require_table) rfl
  obtain ⟨fd_parse_number, F_parse_number⟩ := c.def_ 9 (d := d_parse_number) rfl
  obtain ⟨fd_parse_line, F_parse_line⟩ := c.def_ 10 (d := d_parse_line) rfl
  obtain ⟨fd_show_table, F_show_table⟩ := c.def_ 11 (d := d_show_table) rfl
  obtain ⟨fd_read_table, F_read_table⟩ := c.def_ 12 (d := d_read_table) rfl
  obtain ⟨fd__law_pail, F__law_pail⟩ := c.def_ 13 (d := d__law_pail) rfl
  obtain ⟨fd__law_dip, F__law_dip⟩ := c.def_ 14 (d := d__law_dip) rfl
  obtain ⟨fd__law_hours, F__law_hours⟩ := c.def_ 15 (d := d__law_hours) rfl
  obtain ⟨fd__law_table, F__law_table⟩ := c.def_ 16 (d := d__law_table) rfl
  obtain ⟨fd__law_peak, F__law_peak⟩ := c.def_ 17 (d := d__law_peak) rfl
  obtain ⟨fd__law_policy, F__law_policy⟩ := c.def_ 18 (d := d__law_policy) rfl
  obtain ⟨fd__law_start, F__law_start⟩ := c.def_ 19 (d := d__law_start) rfl
  obtain ⟨fd__law_same, F__law_same⟩ := c.def_ 20 (d := d__law_same) rfl
  obtain ⟨fd__law_kind, F__law_kind⟩ := c.def_ 21 (d := d__law_kind) rfl
  obtain ⟨fd__law_text, F__law_text⟩ := c.def_ 22 (d := d__law_text) rfl
  obtain ⟨fd__law_shown, F__law_shown⟩ := c.def_ 23 (d := d__law_shown) rfl
  obtain ⟨fd_law, F_law⟩ := c.def_ 24 (d := d_law) rfl
  have g_is_int := He.glo_ok X G (c.fact 0 (f := .glo "is_int") rfl)
  have g_in_range := He.glo_ok X G (c.fact 1 (f := .glo "in_range") rfl)
  have g_is_ship := He.glo_ok X G (c.fact 2 (f := .glo "is_ship") rfl)
  have g_day_events := He.glo_ok X G (c.fact 3 (f := .glo "day_events") rfl)
  have g_count_at_midnight := He.glo_ok X G (c.fact 4 (f := .glo "count_at_midnight") rfl)
  have g_counts := He.glo_ok X G (c.fact 5 (f := .glo "counts") rfl)
  have g_peak_of := He.glo_ok X G (c.fact 6 (f := .glo "peak_of") rfl)
  have g_is_table := He.glo_ok X G (c.fact 7 (f := .glo "is_table") rfl)
  have g_require_table := He.glo_ok X G (c.fact 8 (f := .glo "require_table") rfl)
  have g_parse_number := He.glo_ok X G (c.fact 9 (f := .glo "parse_number") rfl)
  have g_parse_line := He.glo_ok X G (c.fact 10 (f := .glo "parse_line") rfl)
  have g_show_table := He.glo_ok X G (c.fact 11 (f := .glo "show_table") rfl)
  have g_read_table := He.glo_ok X G (c.fact 12 (f := .glo "read_table") rfl)
  have g__law_pail := He.glo_ok X G (c.fact 13 (f := .glo "_law_pail") rfl)
  have g__law_dip := He.glo_ok X G (c.fact 14 (f := .glo "_law_dip") rfl)
  have g__law_hours := He.glo_ok X G (c.fact 15 (f := .glo "_law_hours") rfl)
  have g__law_table := He.glo_ok X G (c.fact 16 (f := .glo "_law_table") rfl)
  have g__law_peak := He.glo_ok X G (c.fact 17 (f := .glo "_law_peak") rfl)
  have g__law_policy := He.glo_ok X G (c.fact 18 (f := .glo "_law_policy") rfl)
  have g__law_start := He.glo_ok X G (c.fact 19 (f := .glo "_law_start") rfl)
  have g__law_same := He.glo_ok X G (c.fact 20 (f := .glo "_law_same") rfl)
  have g__law_kind := He.glo_ok X G (c.fact 21 (f := .glo "_law_kind") rfl)
  have g__law_text := He.glo_ok X G (c.fact 22 (f := .glo "_law_text") rfl)
  have g__law_shown := He.glo_ok X G (c.fact 23 (f := .glo "_law_shown") rfl)
  have g_law := He.glo_ok X G (c.fact 24 (f := .glo "law") rfl)
  have g_BerthError := He.glo_ok X G (c.fact 25 (f := .glo "BerthError") rfl)
  have g_NoTable := He.glo_ok X G (c.fact 26 (f := .glo "NoTable") rfl)
  have g_NoHour := He.glo_ok X G (c.fact 27 (f := .glo "NoHour") rfl)
  have g_NoPolicy := He.glo_ok X G (c.fact 28 (f := .glo "NoPolicy") rfl)
  have g_NoStart := He.glo_ok X G (c.fact 29 (f := .glo "NoStart") rfl)
  have g_NoDays := He.glo_ok X G (c.fact 30 (f := .glo "NoDays") rfl)
  have g_NoShip := He.glo_ok X G (c.fact 31 (f := .glo "NoShip") rfl)
  have g_NoBerth := He.glo_ok X G (c.fact 32 (f := .glo "NoBerth") rfl)
  have g_NoMap := He.glo_ok X G (c.fact 33 (f := .glo "NoMap") rfl)
  have g_NoPlan := He.glo_ok X G (c.fact 34 (f := .glo "NoPlan") rfl)
  have g_NoNumber := He.glo_ok X G (c.fact 35 (f := .glo "NoNumber") rfl)
  have g_NoExchange := He.glo_ok X G (c.fact 36 (f := .glo "NoExchange") rfl)
  have g_NoChanges := He.glo_ok X G (c.fact 37 (f := .glo "NoChanges") rfl)
  have g_Nothing := He.glo_ok X G (c.fact 38 (f := .glo "Nothing") rfl)
  have g_NoText := He.glo_ok X G (c.fact 39 (f := .glo "NoText") rfl)
  have g_NoRow := He.glo_ok X G (c.fact 40 (f := .glo "NoRow") rfl)
  have g_NoRoom := He.glo_ok X G (c.fact 41 (f := .glo "NoRoom") rfl)
  have g_TooLong := He.glo_ok X G (c.fact 42 (f := .glo "TooLong") rfl)
  have B : Bi mg := ⟨He.free_ok X G (c.fact 43 (f := .free "isinstance") rfl), He.free_ok X G (c.fact 44 (f := .free "len") rfl), He.free_ok X G (c.fact 45 (f := .free "max") rfl), He.free_ok X G (c.fact 46 (f := .free "min") rfl), He.free_ok X G (c.fact 47 (f := .free "sorted") rfl), He.free_ok X G (c.fact 48 (f := .free "all") rfl), He.free_ok X G (c.fact 49 (f := .free "divmod") rfl), He.free_ok X G (c.fact 50 (f := .free "sum") rfl), He.free_ok X G (c.fact 51 (f := .free "int") rfl), He.free_ok X G (c.fact 52 (f := .free "bool") rfl), He.free_ok X G (c.fact 53 (f := .free "tuple") rfl), He.free_ok X G (c.fact 54 (f := .free "str") rfl), He.free_ok X G (c.fact 55 (f := .free "list") rfl), He.free_ok X G (c.fact 56 (f := .free "dict") rfl), He.free_ok X G (c.fact 57 (f := .free "range") rfl), He.free_ok X G (c.fact 58 (f := .free "enumerate") rfl), He.free_ok X G (c.fact 59 (f := .free "zip") rfl), He.free_ok X G (c.fact 60 (f := .free "repr") rfl)⟩
  have T : TTab mg := ⟨He.int_ok X G (c.fact 62 (f := .int "MOST_HOURS" 1000) rfl), He.int_ok X G (c.fact 63 (f := .int "MOST_SHIPS" 24) rfl), He.int_ok X G (c.fact 64 (f := .int "MOST_STAY" 10000) rfl), He.int_ok X G (c.fact 65 (f := .int "MOST_PEAK" 60) rfl), He.int_ok X G (c.fact 66 (f := .int "DEPARTURE" 0) rfl), He.int_ok X G (c.fact 67 (f := .int "ARRIVAL" 1) rfl)⟩
  have XT : XTab mg := ⟨He.str_ok X G (c.fact 69 (f := .str "DIGITS" "0123456789") rfl), He.int_ok X G (c.fact 68 (f := .int "MAX_DIGITS" 5) rfl)⟩
  have E_NoTable : ExcOk K mg "NoTable" (He.ga K "NoTable") := ⟨(He.exc_ok (c.fact 71 (f := .exc "NoTable") rfl)).1, g_NoTable, (He.exc_ok (c.fact 71 (f := .exc "NoTable") rfl)).2.1, (He.exc_ok (c.fact 71 (f := .exc "NoTable") rfl)).2.2.1, (He.exc_ok (c.fact 71 (f := .exc "NoTable") rfl)).2.2.2⟩
  have E_NoHour : ExcOk K mg "NoHour" (He.ga K "NoHour") := ⟨(He.exc_ok (c.fact 72 (f := .exc "NoHour") rfl)).1, g_NoHour, (He.exc_ok (c.fact 72 (f := .exc "NoHour") rfl)).2.1, (He.exc_ok (c.fact 72 (f := .exc "NoHour") rfl)).2.2.1, (He.exc_ok (c.fact 72 (f := .exc "NoHour") rfl)).2.2.2⟩
  have E_NoPolicy : ExcOk K mg "NoPolicy" (He.ga K "NoPolicy") := ⟨(He.exc_ok (c.fact 73 (f := .exc "NoPolicy") rfl)).1, g_NoPolicy, (He.exc_ok (c.fact 73 (f := .exc "NoPolicy") rfl)).2.1, (He.exc_ok (c.fact 73 (f := .exc "NoPolicy") rfl)).2.2.1, (He.exc_ok (c.fact 73 (f := .exc "NoPolicy") rfl)).2.2.2⟩
  have E_NoStart : ExcOk K mg "NoStart" (He.ga K "NoStart") := ⟨(He.exc_ok (c.fact 74 (f := .exc "NoStart") rfl)).1, g_NoStart, (He.exc_ok (c.fact 74 (f := .exc "NoStart") rfl)).2.1, (He.exc_ok (c.fact 74 (f := .exc "NoStart") rfl)).2.2.1, (He.exc_ok (c.fact 74 (f := .exc "NoStart") rfl)).2.2.2⟩
  have E_NoDays : ExcOk K mg "NoDays" (He.ga K "NoDays") := ⟨(He.exc_ok (c.fact 75 (f := .exc "NoDays") rfl)).1, g_NoDays, (He.exc_ok (c.fact 75 (f := .exc "NoDays") rfl)).2.1, (He.exc_ok (c.fact 75 (f := .exc "NoDays") rfl)).2.2.1, (He.exc_ok (c.fact 75 (f := .exc "NoDays") rfl)).2.2.2⟩
  have E_NoShip : ExcOk K mg "NoShip" (He.ga K "NoShip") := ⟨(He.exc_ok (c.fact 76 (f := .exc "NoShip") rfl)).1, g_NoShip, (He.exc_ok (c.fact 76 (f := .exc "NoShip") rfl)).2.1, (He.exc_ok (c.fact 76 (f := .exc "NoShip") rfl)).2.2.1, (He.exc_ok (c.fact 76 (f := .exc "NoShip") rfl)).2.2.2⟩
  have E_NoBerth : ExcOk K mg "NoBerth" (He.ga K "NoBerth") := ⟨(He.exc_ok (c.fact 77 (f := .exc "NoBerth") rfl)).1, g_NoBerth, (He.exc_ok (c.fact 77 (f := .exc "NoBerth") rfl)).2.1, (He.exc_ok (c.fact 77 (f := .exc "NoBerth") rfl)).2.2.1, (He.exc_ok (c.fact 77 (f := .exc "NoBerth") rfl)).2.2.2⟩
  have E_NoMap : ExcOk K mg "NoMap" (He.ga K "NoMap") := ⟨(He.exc_ok (c.fact 78 (f := .exc "NoMap") rfl)).1, g_NoMap, (He.exc_ok (c.fact 78 (f := .exc "NoMap") rfl)).2.1, (He.exc_ok (c.fact 78 (f := .exc "NoMap") rfl)).2.2.1, (He.exc_ok (c.fact 78 (f := .exc "NoMap") rfl)).2.2.2⟩
  have E_NoPlan : ExcOk K mg "NoPlan" (He.ga K "NoPlan") := ⟨(He.exc_ok (c.fact 79 (f := .exc "NoPlan") rfl)).1, g_NoPlan, (He.exc_ok (c.fact 79 (f := .exc "NoPlan") rfl)).2.1, (He.exc_ok (c.fact 79 (f := .exc "NoPlan") rfl)).2.2.1, (He.exc_ok (c.fact 79 (f := .exc "NoPlan") rfl)).2.2.2⟩
  have E_NoNumber : ExcOk K mg "NoNumber" (He.ga K "NoNumber") := ⟨(He.exc_ok (c.fact 80 (f := .exc "NoNumber") rfl)).1, g_NoNumber, (He.exc_ok (c.fact 80 (f := .exc "NoNumber") rfl)).2.1, (He.exc_ok (c.fact 80 (f := .exc "NoNumber") rfl)).2.2.1, (He.exc_ok (c.fact 80 (f := .exc "NoNumber") rfl)).2.2.2⟩
  have E_NoExchange : ExcOk K mg "NoExchange" (He.ga K "NoExchange") := ⟨(He.exc_ok (c.fact 81 (f := .exc "NoExchange") rfl)).1, g_NoExchange, (He.exc_ok (c.fact 81 (f := .exc "NoExchange") rfl)).2.1, (He.exc_ok (c.fact 81 (f := .exc "NoExchange") rfl)).2.2.1, (He.exc_ok (c.fact 81 (f := .exc "NoExchange") rfl)).2.2.2⟩
  have E_NoChanges : ExcOk K mg "NoChanges" (He.ga K "NoChanges") := ⟨(He.exc_ok (c.fact 82 (f := .exc "NoChanges") rfl)).1, g_NoChanges, (He.exc_ok (c.fact 82 (f := .exc "NoChanges") rfl)).2.1, (He.exc_ok (c.fact 82 (f := .exc "NoChanges") rfl)).2.2.1, (He.exc_ok (c.fact 82 (f := .exc "NoChanges") rfl)).2.2.2⟩
  have E_Nothing : ExcOk K mg "Nothing" (He.ga K "Nothing") := ⟨(He.exc_ok (c.fact 83 (f := .exc "Nothing") rfl)).1, g_Nothing, (He.exc_ok (c.fact 83 (f := .exc "Nothing") rfl)).2.1, (He.exc_ok (c.fact 83 (f := .exc "Nothing") rfl)).2.2.1, (He.exc_ok (c.fact 83 (f := .exc "Nothing") rfl)).2.2.2⟩
  have E_NoText : ExcOk K mg "NoText" (He.ga K "NoText") := ⟨(He.exc_ok (c.fact 84 (f := .exc "NoText") rfl)).1, g_NoText, (He.exc_ok (c.fact 84 (f := .exc "NoText") rfl)).2.1, (He.exc_ok (c.fact 84 (f := .exc "NoText") rfl)).2.2.1, (He.exc_ok (c.fact 84 (f := .exc "NoText") rfl)).2.2.2⟩
  have E_NoRow : ExcOk K mg "NoRow" (He.ga K "NoRow") := ⟨(He.exc_ok (c.fact 85 (f := .exc "NoRow") rfl)).1, g_NoRow, (He.exc_ok (c.fact 85 (f := .exc "NoRow") rfl)).2.1, (He.exc_ok (c.fact 85 (f := .exc "NoRow") rfl)).2.2.1, (He.exc_ok (c.fact 85 (f := .exc "NoRow") rfl)).2.2.2⟩
  have KG : KindG mg (He.ga K) := ⟨fun x hx => by
    unfold kindN at hx
    rcases List.mem_cons.mp hx with rfl | hx
    · exact g_NoTable
    rcases List.mem_cons.mp hx with rfl | hx
    · exact g_NoHour
    rcases List.mem_cons.mp hx with rfl | hx
    · exact g_NoPolicy
    rcases List.mem_cons.mp hx with rfl | hx
    · exact g_NoStart
    rcases List.mem_cons.mp hx with rfl | hx
    · exact g_NoDays
    rcases List.mem_cons.mp hx with rfl | hx
    · exact g_NoShip
    rcases List.mem_cons.mp hx with rfl | hx
    · exact g_NoBerth
    rcases List.mem_cons.mp hx with rfl | hx
    · exact g_NoMap
    rcases List.mem_cons.mp hx with rfl | hx
    · exact g_NoPlan
    rcases List.mem_cons.mp hx with rfl | hx
    · exact g_NoNumber
    rcases List.mem_cons.mp hx with rfl | hx
    · exact g_NoExchange
    rcases List.mem_cons.mp hx with rfl | hx
    · exact g_NoChanges
    rcases List.mem_cons.mp hx with rfl | hx
    · exact g_NoRoom
    rcases List.mem_cons.mp hx with rfl | hx
    · exact g_TooLong
    rcases List.mem_cons.mp hx with rfl | hx
    · exact g_Nothing
    rcases List.mem_cons.mp hx with rfl | hx
    · exact g_NoText
    rcases List.mem_cons.mp hx with rfl | hx
    · exact g_NoRow
    exact absurd hx (by simp), He.free_ok X G (c.fact 61 (f := .free "ValueError") rfl)⟩
  have e := hfa.symm.trans g_law
  cases e
  have b := FunD.bindsA (ps := p_law) F_law fun _ _ _ _ _ _ us hl => match us, hl with | [_], _ => rfl
  refine ⟨fd_law, fun s v => b s [v] rfl, fun base _ _ => ?_⟩
  have D_is_int := ok_is_int (P := P) (w := w) (base := base) B F_is_int g_is_int
  have D_in_range := ok_in_range D_is_int F_in_range g_in_range
  have D_is_ship := ok_is_ship B T D_in_range F_is_ship g_is_ship
  have D_day_events := ok_day_events (P := P) (w := w) (base := base) B T F_day_events g_day_events
  have D_count_at_midnight := ok_count_at_midnight (P := P) (w := w) (base := base) F_count_at_midnight g_count_at_midnight
  have D_counts := ok_counts T D_count_at_midnight D_day_events F_counts g_counts
  have D_peak_of := ok_peak_of B D_counts F_peak_of g_peak_of
  have D_is_table := ok_is_table B T D_in_range D_is_ship D_peak_of F_is_table g_is_table
  have D_require_table := ok_require_table E_NoTable D_is_table F_require_table g_require_table
  have D__law_pail := ok_law_pail (P := P) (w := w) (base := base) B F__law_pail g__law_pail
  have D__law_dip := ok_law_dip (P := P) (w := w) (base := base) F__law_dip g__law_dip
  have D__law_hours := ok_law_hours D__law_dip F__law_hours g__law_hours
  have D__law_table := ok_law_table B D__law_dip F__law_table g__law_table
  have S0 := law_same0 (P := P) (w := w) (base := base) F__law_same g__law_same
  have S1 := ok_law_same B S0 F__law_same g__law_same
  have S2 := ok_law_same B S1 F__law_same g__law_same
  have S3 := ok_law_same B S2 F__law_same g__law_same
  have S4 := ok_law_same B S3 F__law_same g__law_same
  have S5 := ok_law_same B S4 F__law_same g__law_same
  have S6 := ok_law_same B S5 F__law_same g__law_same
  have S7 := ok_law_same B S6 F__law_same g__law_same
  have S8 := ok_law_same B S7 F__law_same g__law_same
  have D_parse_number := ok_parse_number (P := P) (w := w) (base := base) B XT F_parse_number g_parse_number
  have D_parse_line := ok_parse_line B XT D_parse_number F_parse_line g_parse_line
  have D_show_table := ok_show_table D_require_table F_show_table g_show_table
  have D_read_table := ok_read_table B E_NoText D_parse_line D_is_table F_read_table g_read_table
  have D__law_text := ok_law_text (P := P) (w := w) (base := base) B F__law_text g__law_text
  have D_kind : DefP P w K mg base "_law_kind" 1 p__law_kind (spKind K (He.ga K)) := ⟨_, _, ok_law_kind B KG F__law_kind, g__law_kind, F__law_kind.kp, F__law_kind.bindsN (fun _ _ _ _ _ _ us hl => match us, hl with | [_], _ => rfl)⟩
  have D__law_shown := ok_law_shown g_BerthError X_NoTable.m X_NoTable.c D_show_table D_kind F__law_shown g__law_shown
  exact ok_law B D__law_pail D__law_hours D__law_table D__law_text S8 D_show_table D_read_table D__law_shown F_law
end Ba

set_option maxHeartbeats 0
namespace Ba
open PySem PySem.W PySem.Calls PyProof.Rows
theorem row_holds : PySem.Challenge.rw_berths_k57_timetables_as_text.Holds := by
  w_on; o_law
  refine HandSHeadRun.head_any (r := OpenLaw.row PySem.Challenge.rw_berths_k57_timetables_as_text) (q := view (OpenLaw.row PySem.Challenge.rw_berths_k57_timetables_as_text).prog [54]) (H := hk) (ob := ob) (M := 8000) (loose := loose) (d := HandSHeadRun.topDef (OpenLaw.row PySem.Challenge.rw_berths_k57_timetables_as_text).prog 54) (kwd := []) ob_eq
    (by kernel_rfl) (fun s => by kernel_rfl) run (by kernel_rfl) (by kernel_rfl) (by kernel_rfl) (by rfl) (by first | assumption | decide +kernel) (by decide +kernel) ⟨rfl, rfl, rfl, rfl, rfl, by decide +kernel⟩ ?hw ?hc
  case hw => w_witness2
  case hc =>
    refine walk_w (l := PySem.Challenge.rw_berths_k57_timetables_as_text) (n := 63) (k := 9) (x := "_law_script") rfl (by decide) (by kernel_rfl) ⟨rfl, by decide, by decide⟩ ?F
    intro w mg fa h Y G hmg0
    obtain ⟨K, KX, c⟩ := Y
    have hmg : mg ("law" : PySem.Str) = some (.ref fa) := by
      have e : (HandSHeadRun.topDef (OpenLaw.row PySem.Challenge.rw_berths_k57_timetables_as_text).prog 54).name = ("law" : PySem.Str) := by kernel_rfl
      rw [← e]
      exact hmg0
    obtain ⟨fd, hb, hF⟩ := law_facts (P := (PySem.Challenge.rw_berths_k57_timetables_as_text).prog) (w := w) KX G hmg c
    exact ⟨K, fd, spLaw K, KX, hb, fun H a ns hl _ hS => ⟨a, ns, rfl, hS, fun _ => rfl⟩, hF⟩
end Ba

theorem PySem.Challenge.cw_berths_k57_timetables_as_text_holds : PySem.Challenge.rw_berths_k57_timetables_as_text.Holds :=
  Ba.row_holds
