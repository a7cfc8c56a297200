import PyProof.Rows.All
import PySem.PyData
import PySem.Str
import HandS.ForMost
import HandS.Exc
import HandS.TryOnly
import HandS.ExcOwn
import HandS.WordsExc
import HandS.TupAny
import HandS.HotCalls
import PyProof.P3Statements
import PyProof.Lay0
import HandS.Wide
import HandS.IsInst
import HandS.Deep
import HandS.TupMul
import HandS.Zip
import HandS.Rev
import HandS.More
import HandS.Strs
import HandS.WordsDict
import HandS.Style
import KE.DataMinMax
import KE.SortData
import HandS.SortInts
import HandS.Conv
import KE.GoesMore
import HandS.SetFor
import HandS.SetKeys
import HandS.ExcIs
import HandS.RevRange
import HandS.WideBits
import PyProof.ReprLen
import PyProof.ReprRoads
import KE.KTupSum
import HandS.EndTab
import HandS.Text
import HandS.Dict
import HandS.DictSubView
import HandS.SortKw
import HandS.CallLocal
import Wide.All
import OpenK.AllK
import Wide.FinOn
import PySem.Challenge.RW_holefloor_k31_no_corners
set_option Elab.async false
set_option linter.all false
set_option maxRecDepth 100000
section
namespace DL
open PySem
abbrev D := PyData
abbrev Ky := Sum Int Str
/-- what an owned mutable object holds -/
inductive Ct where
  | lst (ds : List D)
  | dK (kvs : List (Ky × D))
  | dT (kvs : List (List Ky × D))
  /-- a list of lists, all of them owned -/
  | ll (rows : List (List D))
  /-- a dict of lists, all of them owned -/
  | dl (kvs : List (Ky × List D))
/-- a slot: nothing known; shared data that stands still; an owned object. The Bool: a parameter lent by the caller -/
inductive Sl where
  | non
  | frz (b : Bool) (d : D)
  | own (b : Bool) (c : Ct)
  /-- the k-th list of the list of lists in slot j -/
  | al (j k : Nat)
abbrev Ro := List Sl
/-- an expression's result: data that stands still, or a new object of one's own -/
inductive RV where
  | val (d : D)
  | new (c : Ct)
structure Exn where
  cls : String
  row : Option Int
inductive EO (α : Type) where
  | ok (a : α)
  | exc (x : Exn)
def M (α : Type) := Ro → Option (EO α × Ro)
def M.bind {α β : Type} (m : M α) (f : α → M β) : M β := fun r => match m r with
  | none => none
  | some (.ok a, r') => f a r'
  | some (.exc x, r') => some (.exc x, r')
def M.ret {α : Type} (a : α) : M α := fun r => some (.ok a, r)
def M.of {α : Type} (o : Option α) : M α := fun r => o.map fun a => (.ok a, r)
/-- an operand: a slot looked at when the operation is done, or a value -/
inductive AV where
  | slot (i : Nat)
  | val (d : D)
/-- an operand looked at -/
inductive Rs where
  | fz (d : D)
  | ow (c : Ct)
def look (r : Ro) : AV → Option Rs
  | .val d => some (.fz d)
  | .slot i => match r[i]? with
    | some (.frz _ d) => some (.fz d)
    | some (.own _ c) => some (.ow c)
    | _ => none
/-- no slot looks into slot i -/
def noAl (r : Ro) (i : Nat) : Bool := r.all fun x => match x with
  | .al j _ => j != i
  | _ => true
/-- .. a list in a list of lists, too -/
def look2 (r : Ro) : AV → Option Rs
  | .val d => some (.fz d)
  | .slot i => match r[i]? with
    | some (.frz _ d) => some (.fz d)
    | some (.own _ c) => some (.ow c)
    | some (.al j k) => match r[j]? with
      | some (.own _ (.ll rows)) => rows[k]?.map fun ds => .ow (.lst ds)
      | _ => none
    | _ => none
def looks2 (r : Ro) : List AV → Option (List Rs)
  | [] => some []
  | a :: as => match look2 r a, looks2 r as with
    | some x, some xs => some (x :: xs)
    | _, _ => none
def looks (r : Ro) : List AV → Option (List Rs)
  | [] => some []
  | a :: as => match look r a, looks r as with
    | some x, some xs => some (x :: xs)
    | _, _ => none
def Ct.data : Ct → Option D
  | .lst ds => some (.list ds)
  | _ => none
def Rs.data : Rs → Option D
  | .fz d => some d
  | .ow c => c.data
/-- a new result stands still from now on -/
def RV.data : RV → Option D
  | .val d => some d
  | .new c => c.data
/-- the slot read as a value: what was owned stands still from now on -/
def mRd (i : Nat) : M RV := fun r => match r[i]? with
  | some (.frz _ d) => some (.ok (.val d), r)
  | some (.own b (.lst ds)) => some (.ok (.val (.list ds)), r.set i (.frz b (.list ds)))
  | some (.own b (.ll rows)) => some (.ok (.val (.list (rows.map .list))), r.set i (.frz b (.list (rows.map .list))))
  | _ => none
def mC (d : D) : M RV := M.ret (.val d)
/-- an operand by its slot; by an expression -/
def oS (i : Nat) : M AV := fun r => match look2 r (.slot i) with
  | some _ => some (.ok (.slot i), r)
  | none => none
def oE (m : M RV) : M AV := m.bind fun rv => M.of (rv.data.map .val)
def oL : List (M AV) → M (List AV)
  | [] => M.ret []
  | m :: ms => m.bind fun a => (oL ms).bind fun as => M.ret (a :: as)
/-- the operation, its operands looked at -/
def mFin (g : List Rs → Option RV) (as : List AV) : M RV := fun r => match looks2 r as with
  | none => none
  | some xs => (g xs).map fun v => (.ok v, r)
def mOp (g : List Rs → Option RV) (os : List (M AV)) : M RV := (oL os).bind (mFin g)
end DL
end

section
namespace DL
open PySem PySem.Spec PyProof.Rows L2
def TP (o : Obj) : Prop := o.cls = .type "tuple" ∧ o.dict = none
/-- a tuple whose object is known to have no dict -/
def TupAt (H : Hp) (a : Addr) (xs : List V) : Prop := ∃ o, TP o ∧ H a = some (.frz o (.tup xs))
theorem TupAt.sq {K : PySem.W.Frag} {H : Hp} {a : Addr} {xs : List V} (h : TupAt H a xs) : SqT K H a xs := let ⟨o, _, e⟩ := h; .inl (.inr ⟨o, e⟩)
theorem tup_same {H H' : Hp} {a : Addr} {xs : List V} (e : Same H H') (h : TupAt H a xs) : TupAt H' a xs := let ⟨o, t, q⟩ := h; ⟨o, t, e _ _ q⟩
theorem tupAt_new {H : Hp} {p : Addr} {o : Obj} {xs : List V} (t : TP o) : TupAt (upd H p (.frz o (.tup xs))) p xs := ⟨o, t, upd_same⟩
section
variable {X : Cx} {pins : List (Addr × Obj)} {σ : L2.St} {H : Hp} {s : Shared}
theorem Inv.layT {its : List Value} {xs : List V} {t' : Nat} {h' : Heap} (I : Inv X pins σ H s) (k : ∀ b u, s.heap.get? b = some u → h'.get? b = some u) (hs : h'.objs.size = s.heap.objs.size) (hv : Vals xs its) (hz : xs.length ≤ sizeLine) :
    Inv X pins σ (upd H h'.objs.size (.frz { cls := .type "tuple", data := .seq its.toArray } (.tup xs))) { s with heap := h'.push { cls := .type "tuple", data := .seq its.toArray }, toks := t' } := by
  have e := Heap.get?_push_size h' (o := { cls := .type "tuple", data := .seq its.toArray }) rfl
  exact I.laid (fun b o q => Heap.get?_push_of_some _ (k b o q)) (by rw [hs]; exact Nat.le_refl _) ⟨e, hz, its, hv, ⟨_, e, rfl, _, rfl⟩⟩
theorem fe_tup {es : List Expr} {t : TA} {x1 : Nat} {pos : Pos} (h : PA X es t) : PE X (.Tuple es x1 pos) (fun σ H Q => t σ H fun xs H1 => xs.length ≤ sizeLine ∧ ∀ p o, H1 p = none → TP o → Q (.ref p) (upd H1 p (.frz o (.tup xs)))) := by
  refine ⟨fun pins s σ H Q I hq => ?_⟩
  refine wpAny_Tuple_spliced (thn (h.run pos pins s σ H _ I hq) fun us s1 ⟨xs, H1, I1, r, z, q⟩ => ⟨by rw [← r.length]; exact z, ?_⟩)
  have hf : H1 s1.heap.objs.size = none := I1.hok.fresh (Nat.le_refl _)
  exact ⟨.ref s1.heap.objs.size, _, Inv.layT (t' := s1.toks) I1 (fun b u e => e) rfl r z, rfl, q _ _ hf ⟨rfl, rfl⟩⟩
theorem fcall_tuple : CallR X (.type "tuple") (fun xs H Q => ∃ p ys, xs = [.ref p] ∧ ((SqL X.K H p ys ∧ ∀ l o, H l = none → TP o → Q (.ref l) (upd H l (.frz o (.tup ys)))) ∨ (SqT X.K H p ys ∧ Q (.ref p) H))) := by
  intro pins s σ H xs us Q I r h
  obtain ⟨p, ys, rfl, h⟩ := h
  obtain ⟨u, rfl, rx⟩ := vals1 r
  cases rx
  rcases h with ⟨hq, q⟩ | ⟨hq, q⟩
  · obtain ⟨its, r', pl, hz⟩ := I.list hq
    have hlen := r'.length
    refine call_tuple_list pl.isList (fun h' kp => ?_) (by simp only [List.size_toArray] <;> omega)
    have I1 : Inv X pins σ H { s with heap := h' } := I.kept (t' := s.toks) kp
    exact ⟨.ref h'.objs.size, _, Inv.layT (s := { s with heap := h' }) (t' := s.toks) I1 (fun b u e => e) rfl r' hz, rfl, q _ _ (I1.hok.fresh (Nat.le_refl _)) ⟨rfl, rfl⟩⟩
  · obtain ⟨its, r', pl, hz⟩ := I.tuple hq
    exact call_tuple_same pl ⟨.ref p, H, I, rfl, q⟩
theorem fop_cat : OpR X (binaryOp .Add) (fun x y H Q => ∃ a b xs ys, x = .ref a ∧ y = .ref b ∧ SqT X.K H a xs ∧ SqT X.K H b ys ∧ xs.length + ys.length ≤ sizeLine ∧
    (xs = [] → Q (.ref b) H) ∧ (xs ≠ [] → ys = [] → Q (.ref a) H) ∧ (xs ≠ [] → ys ≠ [] → ∀ p o, H p = none → TP o → Q (.ref p) (upd H p (.frz o (.tup (xs ++ ys)))))) := by
  intro pins s σ H x y v u Q I rx ry h
  obtain ⟨a, b, xs, ys, rfl, rfl, ha, hb, hz, q0, q1, q2⟩ := h
  cases rx
  cases ry
  obtain ⟨its, r1, p1, _⟩ := I.tuple ha
  obtain ⟨its2, r2, p2, _⟩ := I.tuple hb
  by_cases hx : xs = []
  · subst hx
    cases r1
    exact cat_tup0 p1 p2 ⟨.ref b, H, I, rfl, q0 rfl⟩
  · refine HT.cat_tup p1 p2 (fun z => hx (r1.nil_iff.mp z)) (fun z => ⟨.ref a, H, I, rfl, q1 hx (r2.nil_iff.mp z)⟩) (fun z => ?_) (by rw [← r1.length, ← r2.length]; exact hz)
    exact ⟨.ref s.heap.objs.size, _, Inv.layT (t' := s.toks) I (fun b u e => e) rfl (r1.append r2) (by rw [List.length_append]; exact hz), rfl, q2 hx (fun w => z (r2.nil_iff.mpr w)) _ _ (I.hok.fresh (Nat.le_refl _)) ⟨rfl, rfl⟩⟩
def rSlF (K : PySem.W.Frag) : V → Option Int → Option Int → Hp → VK → Prop := fun x lo hi H Q => ∃ a xs, x = .ref a ∧ SqT K H a xs ∧
  (HT.sIx xs.length 0 lo = 0 ∧ HT.sIx xs.length xs.length hi = xs.length → Q (.ref a) H) ∧ (¬ (HT.sIx xs.length 0 lo = 0 ∧ HT.sIx xs.length xs.length hi = xs.length) → ∀ p o, H p = none → TP o → Q (.ref p) (upd H p (.frz o (.tup (cutV xs lo hi)))))
theorem fsl_tup : SlR X (rSlF X.K) := by
  intro pins s σ H x v vl vu lo hi sl Q I rx hs pl pu h
  obtain ⟨a, xs, rfl, hx, q1, q2⟩ := h
  cases rx
  obtain ⟨its, r, ht, hz⟩ := I.tuple hx
  have hlen : its.toArray.size = xs.length := by rw [List.size_toArray]; exact r.length.symm
  refine ⟨"tuple", _, PyProof.Rows.slot_tuple_getitem.lookup, ht.typeIs, ?_⟩
  by_cases hw : HT.sIx xs.length 0 lo = 0 ∧ HT.sIx xs.length xs.length hi = xs.length
  · exact getItem_tuple_whole ht hs pl pu (by rw [hlen]; exact hw) ⟨.ref a, H, I, rfl, q1 hw⟩
  · refine HT.getItem_tuple_cut ht hs pl pu (by rw [hlen]; exact hw) ?_ (by rw [hlen]; exact hz)
    rw [hlen]
    exact ⟨.ref s.heap.objs.size, _, Inv.layT (t' := s.toks) I (fun b u e => e) rfl ((r.drop (HT.sIx xs.length 0 lo)).take (HT.sIx xs.length xs.length hi - HT.sIx xs.length 0 lo)) (Nat.le_trans (cutV_length xs lo hi) hz), rfl, q2 hw _ _ (I.hok.fresh (Nat.le_refl _)) ⟨rfl, rfl⟩⟩
/-- a method of a list or of a tuple -/
theorem fe_bm {o e : Expr} {es : List Expr} {to : TE} {t : TA} {name : Str} {apos cpos : Pos} {id id2 : String} {r r2 : V → List V → Hp → VK → Prop} (pa : PlainAttrs "list") (slot : Slot "list" name id) (hty : typeOf (.builtin id) = pure (.type "method_descriptor")) (hm : MtR X id r)
    (pa2 : PlainAttrs "tuple") (slot2 : Slot "tuple" name id2) (hty2 : typeOf (.builtin id2) = pure (.type "method_descriptor")) (hm2 : MtR X id2 r2) (ho : PE X o to) (ha : PA X (e :: es) t)
    (hbase : attributeBase o name X.env (eval o X.env) = eval o X.env := by rfl)
    (hfew : ((backTo cpos (starEach (e :: es) X.env)).all (fun x => !x.1) && (backToKw cpos (keywordEach [] X.env)).all (fun x => x.1.isSome)
      && decide ((e :: es).length + ([] : List Keyword).length + (if ([] : List Keyword).isEmpty then 0 else 1) < 30)) = true := by rfl)
    (hline : (apos.endLine == cpos.line) = true := by rfl) (hs : starEach (e :: es) X.env = (false, eval e X.env) :: starEach es X.env := by rfl) (hplain : (backTo cpos (starEach es X.env)).any (·.1) = false := by rfl) :
    PE X (.Call (.Attribute o name apos) (e :: es) [] cpos) (fun σ H Q => to σ H fun x H1 => (∃ a xs, x = .ref a ∧ SqL X.K H1 a xs ∧ t σ H1 fun xs H2 => r x xs H2 Q) ∨ (∃ a xs, x = .ref a ∧ TupAt H1 a xs ∧ t σ H1 fun xs H2 => r2 x xs H2 Q)) := by
  refine ⟨fun pins s σ H Q I h => ?_⟩
  refine wpAny_Call_method_late hbase hfew hline rfl (thn (ho.run pins s σ H _ I h) fun v s1 ⟨x, H1, I1, r1, q1⟩ => ?_)
  rcases q1 with ⟨a, xs, rfl, hq, q1⟩ | ⟨a, xs, rfl, ⟨ob, ⟨t1, t2⟩, hq⟩, q1⟩
  · obtain ⟨h1, h2⟩ := tyV_is I1 r1 (show tyV X.K "list" (.ref a) H1 from .inl ⟨rfl, xs, hq⟩)
    refine ⟨"list", id, pa, slot, hty, h1, h2, ?_⟩
    have hA := ha.run cpos pins s1 σ H1 _ I1 q1
    rw [hs] at hA ⊢
    refine Calls.callWith_builtin (by show (false || (backTo cpos (starEach es X.env)).any (·.1)) = false; rw [hplain] <;> rfl) (Calls.evalArgs_plain ?_)
    exact thn hA fun us s2 ⟨vs, H2, I2, rr, q2⟩ => hm pins s2 σ H2 _ vs v us Q I2 r1 rr q2
  · have hob := (I1.hok a _ hq).1
    cases (show v = Value.ref a from r1)
    refine ⟨"tuple", id2, pa2, slot2, hty2, ⟨ob, hob, t1⟩, fun b e => by cases e; exact ⟨ob, hob, t2⟩, ?_⟩
    have hA := ha.run cpos pins s1 σ H1 _ I1 q1
    rw [hs] at hA ⊢
    refine Calls.callWith_builtin (by show (false || (backTo cpos (starEach es X.env)).any (·.1)) = false; rw [hplain] <;> rfl) (Calls.evalArgs_plain ?_)
    exact thn hA fun us s2 ⟨vs, H2, I2, rr, q2⟩ => hm2 pins s2 σ H2 (.ref a) vs (.ref a) us Q I2 rfl rr q2
end
end DL
end

section
namespace DL
open PySem
def fnD (x : Str) : D := .dict [(.str x, .none)]
def fnName : D → Option Str
  | .dict [(.str x, .none)] => some x
  | _ => none
end DL
end

section
namespace DL
open PySem PySem.Spec PyProof.Rows L2

theorem sqt_same {K : PySem.W.Frag} {H H' : Hp} {a : Addr} {xs : List V} (e : Same H H') (h : SqT K H a xs) : SqT K H' a xs := by
  rcases h with (h | ⟨o, h⟩) | h
  · exact .inl (.inl (e _ _ h))
  · exact .inl (.inr ⟨o, e _ _ h⟩)
  · exact .inr h
/-- data in the heap; a dict stands here for the law's script, which is only ever cut -/
def scrD (ns : List Int) : D := .dict ((.none, .none) :: ns.map fun n => (.int n, .none))
mutual
inductive Dq (K : PySem.W.Frag) (H : Hp) : V → D → Prop
  | non : Dq K H .non .none
  | bl (b : Bool) : Dq K H (.bl b) (.bool b)
  | int (i : Int) : Dq K H (.int i) (.int i)
  | str (x : Str) : Dq K H (.str x) (.str x)
  | lst {a : Addr} {xs : List V} {ds : List D} : H a = some (.lst xs) → DqAll K H xs ds → Dq K H (.ref a) (.list ds)
  | tup {a : Addr} {xs : List V} {ds : List D} : TupAt H a xs → DqAll K H xs ds → Dq K H (.ref a) (.tuple ds)
  | scr {a : Addr} {ns : List Int} {d : D} : SqL K H a (ns.map V.int) → d = scrD ns → Dq K H (.ref a) d
  | dic {a : Addr} : H a = some (.dK []) → Dq K H (.ref a) (.dict [])
  | dii {a : Addr} {i j : Int} : H a = some (.dK [(.inl i, .int j)]) → Dq K H (.ref a) (.dict [(.int i, .int j)])
  | fn {a : Addr} {x : Str} {d : D} : PySem.W.nsIn K mainGlobals x = some (some (.ref a)) → d = fnD x → Dq K H (.ref a) d
inductive DqAll (K : PySem.W.Frag) (H : Hp) : List V → List D → Prop
  | nil : DqAll K H [] []
  | cons {v : V} {vs : List V} {d : D} {ds : List D} : Dq K H v d → DqAll K H vs ds → DqAll K H (v :: vs) (d :: ds)
end
mutual
theorem dp_same {K : PySem.W.Frag} {H H' : Hp} (e : Same H H') : ∀ {v : V} {d : D}, Dq K H v d → Dq K H' v d
  | _, _, .non => .non
  | _, _, .bl b => .bl b
  | _, _, .int i => .int i
  | _, _, .str x => .str x
  | _, _, .lst s a => .lst (e _ _ s) (dpa_same e a)
  | _, _, .scr s h => .scr (e.seq s) h
  | _, _, .fn s h => .fn s h
  | _, _, .dic s => .dic (e _ _ s)
  | _, _, .dii s => .dii (e _ _ s)
  | _, _, .tup s a => .tup (tup_same e s) (dpa_same e a)
theorem dpa_same {K : PySem.W.Frag} {H H' : Hp} (e : Same H H') : ∀ {vs : List V} {ds : List D}, DqAll K H vs ds → DqAll K H' vs ds
  | _, _, .nil => .nil
  | _, _, .cons h t => .cons (dp_same e h) (dpa_same e t)
end
theorem DqAll.length {K : PySem.W.Frag} {H : Hp} : ∀ {vs : List V} {ds : List D}, DqAll K H vs ds → vs.length = ds.length
  | _, _, .nil => rfl
  | _, _, .cons _ t => by simp [DqAll.length t]
theorem DqAll.get {K : PySem.W.Frag} {H : Hp} : ∀ {vs : List V} {ds : List D} {i : Nat} {d : D}, DqAll K H vs ds → ds[i]? = some d → ∃ v, vs[i]? = some v ∧ Dq K H v d
  | _, _, _, _, .nil, e => by simp at e
  | _, _, 0, _, .cons h _, e => by simp at e; subst e; exact ⟨_, rfl, h⟩
  | _, _, i + 1, _, .cons _ t, e => by
    obtain ⟨v, h1, h2⟩ := DqAll.get (i := i) t (by simpa using e)
    exact ⟨v, by simpa using h1, h2⟩
theorem DqAll.append {K : PySem.W.Frag} {H : Hp} : ∀ {vs ws : List V} {ds es : List D}, DqAll K H vs ds → DqAll K H ws es → DqAll K H (vs ++ ws) (ds ++ es)
  | _, _, _, _, .nil, s => s
  | _, _, _, _, .cons h t, s => .cons h (DqAll.append t s)
theorem DqAll.take {K : PySem.W.Frag} {H : Hp} : ∀ {vs : List V} {ds : List D} (n : Nat), DqAll K H vs ds → DqAll K H (vs.take n) (ds.take n)
  | _, _, 0, _ => by simpa using DqAll.nil
  | _, _, _ + 1, .nil => .nil
  | _, _, n + 1, .cons h t => .cons h (DqAll.take n t)
theorem DqAll.drop {K : PySem.W.Frag} {H : Hp} : ∀ {vs : List V} {ds : List D} (n : Nat), DqAll K H vs ds → DqAll K H (vs.drop n) (ds.drop n)
  | _, _, 0, h => by simpa using h
  | _, _, _ + 1, .nil => .nil
  | _, _, n + 1, .cons _ t => DqAll.drop n t
theorem DqAll.set {K : PySem.W.Frag} {H : Hp} {v : V} {d : D} (r : Dq K H v d) : ∀ {vs : List V} {ds : List D} (i : Nat), DqAll K H vs ds → DqAll K H (vs.set i v) (ds.set i d)
  | _, _, _, .nil => .nil
  | _, _, 0, .cons _ t => .cons r t
  | _, _, i + 1, .cons h t => .cons h (DqAll.set r i t)
theorem DqAll.reverse {K : PySem.W.Frag} {H : Hp} {vs : List V} {ds : List D} (h : DqAll K H vs ds) : DqAll K H vs.reverse ds.reverse := by
  induction vs generalizing ds with
  | nil => cases h; exact .nil
  | cons v vs ih =>
    cases h with
    | cons h t =>
      rw [List.reverse_cons, List.reverse_cons]
      exact DqAll.append (ih t) (.cons h .nil)
theorem dp_list {K : PySem.W.Frag} {H : Hp} {v : V} {ds : List D} (h : Dq K H v (.list ds)) : ∃ a xs, v = .ref a ∧ H a = some (.lst xs) ∧ DqAll K H xs ds := by
  cases h with
  | lst s a => exact ⟨_, _, rfl, s, a⟩
  | scr s h => cases h
  | fn s h => cases h
theorem dp_tuple {K : PySem.W.Frag} {H : Hp} {v : V} {ds : List D} (h : Dq K H v (.tuple ds)) : ∃ a xs, v = .ref a ∧ TupAt H a xs ∧ DqAll K H xs ds := by
  cases h with
  | tup s a => exact ⟨_, _, rfl, s, a⟩
  | scr s h => cases h
  | fn s h => cases h
mutual
theorem dq_dp {K : PySem.W.Frag} {H : Hp} : ∀ {v : V} {d : D}, Dq K H v d → d.canLay0 = true → Dp K H v d
  | _, _, .non, _ => .non
  | _, _, .bl b, _ => .bl b
  | _, _, .int i, _ => .int i
  | _, _, .str x, _ => .str x
  | _, _, .lst s a, h => .lst (.inl (.inl s)) (dqa_dpa a (by simpa [PyData.canLay0] using h))
  | _, _, .tup s a, h => .tup s.sq (dqa_dpa a (by simpa [PyData.canLay0] using h))
  | _, _, .scr s e, h => by subst e; simp [scrD, PyData.canLay0] at h
  | _, _, .fn s e, h => by subst e; simp [fnD, PyData.canLay0] at h
  | _, _, .dic s, h => by simp [PyData.canLay0] at h
  | _, _, .dii s, h => by simp [PyData.canLay0] at h
theorem dqa_dpa {K : PySem.W.Frag} {H : Hp} : ∀ {vs : List V} {ds : List D}, DqAll K H vs ds → PyData.canLayAll0 ds = true → DpAll K H vs ds
  | _, _, .nil, _ => .nil
  | _, _, .cons a t, h => by
    simp only [PyData.canLayAll0, Bool.and_eq_true] at h
    exact .cons (dq_dp a h.1) (dqa_dpa t h.2)
end
theorem dp_int {K : PySem.W.Frag} {H : Hp} {v : V} {i : Int} (h : Dq K H v (.int i)) : v = .int i := by
  cases h with
  | int => rfl
  | scr s h => cases h
  | fn s h => cases h
theorem dp_bl {K : PySem.W.Frag} {H : Hp} {v : V} {i : Bool} (h : Dq K H v (.bool i)) : v = .bl i := by
  cases h with
  | bl => rfl
  | scr s h => cases h
  | fn s h => cases h
theorem dp_str {K : PySem.W.Frag} {H : Hp} {v : V} {i : Str} (h : Dq K H v (.str i)) : v = .str i := by
  cases h with
  | str => rfl
  | scr s h => cases h
  | fn s h => cases h
theorem dp_non {K : PySem.W.Frag} {H : Hp} {v : V} (h : Dq K H v .none) : v = .non := by
  cases h with
  | non => rfl
  | scr s h => cases h
  | fn s h => cases h

abbrev KvR (K : PySem.W.Frag) (B : Hp) {κ : Type} : List (κ × V) → List (κ × D) → Prop := Paired fun p q => p.1 = q.1 ∧ Dq K B p.2 q.2
theorem kvr_same {K : PySem.W.Frag} {B B' : Hp} (e : Same B B') {κ : Type} : ∀ {l : List (κ × V)} {m : List (κ × D)}, KvR K B l m → KvR K B' l m
  | _, _, .nil => .nil
  | _, _, .cons h t => .cons ⟨h.1, dp_same e h.2⟩ (kvr_same e t)
/-- the lists at as hold the rows -/
def RowsAt (K : PySem.W.Frag) (B H : Hp) : List Addr → List (List D) → Prop := Paired fun a ds => ∃ vs, H a = some (.lst vs) ∧ DqAll K B vs ds
theorem rowsAt_same {K : PySem.W.Frag} {B H B' H' : Hp} (e : Same B B') : ∀ {as : List Addr} {rows : List (List D)}, RowsAt K B H as rows → (∀ a ∈ as, H' a = H a) → RowsAt K B' H' as rows
  | _, _, .nil, _ => .nil
  | _, _, .cons h t, k => .cons (by obtain ⟨vs, h1, h2⟩ := h; exact ⟨vs, by rw [k _ List.mem_cons_self]; exact h1, dpa_same e h2⟩) (rowsAt_same e t fun a ha => k a (List.mem_cons_of_mem _ ha))
theorem rowsAt_some {K : PySem.W.Frag} {B H : Hp} : ∀ {as : List Addr} {rows : List (List D)}, RowsAt K B H as rows → ∀ a ∈ as, H a ≠ none
  | _, _, .nil, a, h => by cases h
  | _, _, .cons h t, a, ha => by
    rcases List.mem_cons.mp ha with rfl | ha
    · obtain ⟨vs, h1, _⟩ := h; rw [h1]; simp
    · exact rowsAt_some t a ha
/-- the entries of a dict of lists -/
def dlV (kvs : List (Ky × List D)) (as : List Addr) : List (Ky × V) := List.zipWith (fun kv a => (kv.1, V.ref a)) kvs as
theorem dlV_inj : ∀ {kvs : List (Ky × List D)} {as bs : List Addr}, as.length = kvs.length → bs.length = kvs.length → dlV kvs as = dlV kvs bs → as = bs
  | [], [], [], _, _, _ => rfl
  | [], _ :: _, _, h, _, _ => by simp at h
  | [], _, _ :: _, _, h, _ => by simp at h
  | _ :: _, [], _, h, _, _ => by simp at h
  | _ :: _, _, [], _, h, _ => by simp at h
  | kv :: kvs, a :: as, b :: bs, h1, h2, h => by
    simp only [dlV, List.zipWith_cons_cons, List.cons.injEq, Prod.mk.injEq, V.ref.injEq, true_and] at h
    rw [h.1, dlV_inj (kvs := kvs) (by simpa using h1) (by simpa using h2) h.2]
/-- the hash of a tuple of whole numbers; a dict with such keys; its entries as the slots' meanings -/
def tHash (ks : List Int) : Int := reduceHash (Builtin.Tuple.tupleHashOf (ks.map hashInt))
def DTob (l : Addr) (xs : List (List Int × Addr × Value)) (h : Heap) : Prop :=
  ∃ o es ep, h.get? l = some o ∧ o.ExactDict ∧ o.data = .dict es ep ∧ es.toList = xs.map fun x => (⟨tHash x.1, .ref x.2.1, x.2.2⟩ : DictEntry)
def DTo (l : Addr) (xs : List (List Int × Addr × Value)) : HO := .ext (DTob l xs)
def TkP (K : PySem.W.Frag) (B : Hp) : List (List Int × Addr × Value) → List (List Ky × D) → Prop :=
  Paired fun x kv => kv.1 = x.1.map Sum.inl ∧ TupAt B x.2.1 (x.1.map V.int) ∧ ∃ v, RelV v x.2.2 ∧ Dq K B v kv.2
def TkR (K : PySem.W.Frag) (B : Hp) (l : Addr) (xs : List (List Int × Addr × Value)) (kvs : List (List Ky × D)) : Prop :=
  (l == sysModules) = false ∧ xs.length ≤ sizeLine ∧ (xs.map (·.1)).Nodup ∧ TkP K B xs kvs
theorem tkp_same {K : PySem.W.Frag} {B B' : Hp} (e : Same B B') : ∀ {xs : List (List Int × Addr × Value)} {kvs : List (List Ky × D)}, TkP K B xs kvs → TkP K B' xs kvs
  | _, _, .nil => .nil
  | _, _, .cons h t => .cons (by obtain ⟨h1, h2, v, h3, h4⟩ := h; exact ⟨h1, tup_same e h2, v, h3, dp_same e h4⟩) (tkp_same e t)
theorem tkr_same {K : PySem.W.Frag} {B B' : Hp} (e : Same B B') {l : Addr} {xs : List (List Int × Addr × Value)} {kvs : List (List Ky × D)} (h : TkR K B l xs kvs) : TkR K B' l xs kvs := ⟨h.1, h.2.1, h.2.2.1, tkp_same e h.2.2.2⟩
/-- the object c stands at l; F: all addresses that are owned by it -/
def OwnR (K : PySem.W.Frag) (B H : Hp) : Ct → Addr → List Addr → Prop
  | .lst ds, l, F => F = [l] ∧ ∃ vs, H l = some (.lst vs) ∧ DqAll K B vs ds
  | .dK kvs, l, F => F = [l] ∧ ∃ vs, H l = some (.dK vs) ∧ KvR K B vs kvs
  | .dT kvs, l, F => F = [l] ∧ ∃ xs, H l = some (DTo l xs) ∧ TkR K B l xs kvs
  | .ll rows, l, F => ∃ as : List Addr, F = l :: as ∧ H l = some (.lst (as.map V.ref)) ∧ (l :: as).Nodup ∧ RowsAt K B H as rows
  | .dl kvs, l, F => ∃ as : List Addr, F = l :: as ∧ H l = some (.dK (dlV kvs as)) ∧ (l :: as).Nodup ∧ RowsAt K B H as (kvs.map (·.2))
theorem rowsAt_len {K : PySem.W.Frag} {B H : Hp} {as : List Addr} {rows : List (List D)} (h : RowsAt K B H as rows) : as.length = rows.length := Paired.length h
theorem ref_inj : ∀ {as bs : List Addr}, as.map V.ref = bs.map V.ref → as = bs
  | [], [], _ => rfl
  | [], _ :: _, h => by cases h
  | _ :: _, [], h => by cases h
  | a :: as, b :: bs, h => by
    simp only [List.map_cons, List.cons.injEq, V.ref.injEq] at h
    rw [h.1, ref_inj h.2]
theorem ownR_mem {K : PySem.W.Frag} {B H : Hp} {c : Ct} {l : Addr} {F : List Addr} (h : OwnR K B H c l F) : l ∈ F := by
  cases c with
  | ll rows => obtain ⟨as, rfl, _⟩ := h; simp
  | dl rows => obtain ⟨as, rfl, _⟩ := h; simp
  | _ => (obtain ⟨rfl, _⟩ := h; simp)
theorem ownR_some {K : PySem.W.Frag} {B H : Hp} {c : Ct} {l : Addr} {F : List Addr} (h : OwnR K B H c l F) : ∀ a ∈ F, H a ≠ none := by
  cases c with
  | ll rows =>
    obtain ⟨as, rfl, e, _, r⟩ := h
    intro a ha
    rcases List.mem_cons.mp ha with rfl | ha
    · rw [e]; simp
    · exact rowsAt_some r a ha
  | dl rows =>
    obtain ⟨as, rfl, e, _, r⟩ := h
    intro a ha
    rcases List.mem_cons.mp ha with rfl | ha
    · rw [e]; simp
    · exact rowsAt_some r a ha
  | _ => (obtain ⟨rfl, vs, e, _⟩ := h; intro a ha; simp at ha; subst ha; rw [e]; simp)
theorem ownR_same {K : PySem.W.Frag} {B H B' H' : Hp} {c : Ct} {l : Addr} {F : List Addr} (h : OwnR K B H c l F) (e : Same B B') (k : ∀ a ∈ F, H' a = H a) : OwnR K B' H' c l F := by
  cases c with
  | lst ds => obtain ⟨rfl, vs, e1, r⟩ := h; exact ⟨rfl, vs, by rw [k l (by simp)]; exact e1, dpa_same e r⟩
  | dK ds => obtain ⟨rfl, vs, e1, r⟩ := h; exact ⟨rfl, vs, by rw [k l (by simp)]; exact e1, kvr_same e r⟩
  | dT ds => obtain ⟨rfl, vs, e1, r⟩ := h; exact ⟨rfl, vs, by rw [k l (by simp)]; exact e1, tkr_same e r⟩
  | ll rows => obtain ⟨as, rfl, e1, nd, r⟩ := h; exact ⟨as, rfl, by rw [k l (by simp)]; exact e1, nd, rowsAt_same e r fun a ha => k a (by simp [ha])⟩
  | dl rows => obtain ⟨as, rfl, e1, nd, r⟩ := h; exact ⟨as, rfl, by rw [k l (by simp)]; exact e1, nd, rowsAt_same e r fun a ha => k a (by simp [ha])⟩
theorem ownR_uniq {K : PySem.W.Frag} {B H B' H' : Hp} {c : Ct} {l : Addr} {F F' : List Addr} (h : OwnR K B H c l F) (h' : OwnR K B' H' c l F') (k : ∀ a ∈ F, H' a = H a) : F' = F := by
  cases c with
  | ll rows =>
    obtain ⟨as, rfl, e1, _⟩ := h
    obtain ⟨as', rfl, e1', _⟩ := h'
    rw [k l (by simp), e1] at e1'
    have := HO.lst.inj (Option.some.inj e1')
    rw [ref_inj this]
  | dl rows =>
    obtain ⟨as, rfl, e1, _, r⟩ := h
    obtain ⟨as', rfl, e1', _, r'⟩ := h'
    rw [k l (by simp), e1] at e1'
    have := HO.dK.inj (Option.some.inj e1')
    rw [dlV_inj (by simpa using rowsAt_len r) (by simpa using rowsAt_len r') this]
  | _ => (obtain ⟨rfl, _⟩ := h; obtain ⟨rfl, _⟩ := h'; rfl)

/-- the slots' meaning: B: what stands still; O: what is owned -/
structure Con0 (K : PySem.W.Frag) (B H : Hp) (σ : L2.St) (r : Ro) (O : Addr → Prop) : Prop where
  sub : Same B H
  off : ∀ a, O a → B a = none
  liv : ∀ a, O a → H a ≠ none
  len : r.length = σ.length
  frz : ∀ (i : Nat) b d, r[i]? = some (Sl.frz b d) → ∃ v, σ[i]? = some (some v) ∧ Dq K B v d
  own : ∀ (i : Nat) b c, r[i]? = some (Sl.own b c) → ∃ l F, σ[i]? = some (some (V.ref l)) ∧ OwnR K B H c l F ∧ ∀ a ∈ F, O a
  sep : ∀ (i j : Nat) b c b' c' l l' F F', i ≠ j → r[i]? = some (Sl.own b c) → r[j]? = some (Sl.own b' c') → σ[i]? = some (some (V.ref l)) → σ[j]? = some (some (V.ref l')) →
    OwnR K B H c l F → OwnR K B H c' l' F' → ∀ a ∈ F, a ∉ F'
/-- slots that look into a list of lists -/
def Al (H : Hp) (σ : L2.St) (r : Ro) : Prop := ∀ (i j k : Nat), r[i]? = some (Sl.al j k) → ∀ b rows l (as : List Addr), r[j]? = some (Sl.own b (.ll rows)) → σ[j]? = some (some (V.ref l)) → H l = some (.lst (as.map V.ref)) →
  ∃ a, as[k]? = some a ∧ σ[i]? = some (some (V.ref a))
structure Con (K : PySem.W.Frag) (B H : Hp) (σ : L2.St) (r : Ro) (O : Addr → Prop) : Prop extends Con0 K B H σ r O where
  al : Al H σ r
/-- from one state to a later one -/
structure Step (B H : Hp) (O : Addr → Prop) (B' H' : Hp) (O' : Addr → Prop) : Prop where
  sB : Same B B'
  keep : ∀ a o, H a = some o → ¬ O a → H' a = some o
  live : ∀ a, H a ≠ none → H' a ≠ none
  nB : ∀ a, H a ≠ none → ¬ O a → B a = none → B' a = none
  nO : ∀ a, O' a → O a ∨ H a = none
theorem Step.refl {B H : Hp} {O : Addr → Prop} : Step B H O B H O := ⟨Same.refl _, fun _ _ h _ => h, fun _ h => h, fun _ _ _ h => h, fun _ h => .inl h⟩
theorem Step.trans {B H B1 H1 B2 H2 : Hp} {O O1 O2 : Addr → Prop} (s : Step B H O B1 H1 O1) (t : Step B1 H1 O1 B2 H2 O2) : Step B H O B2 H2 O2 := by
  have no1 : ∀ a, H a ≠ none → ¬ O a → ¬ O1 a := fun a h n h1 => (s.nO a h1).elim n h
  refine ⟨s.sB.trans t.sB, fun a o h n => t.keep a o (s.keep a o h n) (no1 a (by rw [h]; simp) n), fun a h => t.live a (s.live a h), fun a h n b => t.nB a (s.live a h) (no1 a h n) (s.nB a h n b), fun a h => ?_⟩
  rcases t.nO a h with h | h
  · exact s.nO a h
  · by_cases q : H a = none
    · exact .inr q
    · exact absurd h (s.live a q)
/-- a lent parameter's slot stays -/
def pinned : Sl → Bool
  | .frz b _ => b
  | .own b _ => b
  | .non => false
  | .al _ _ => false
def Bor (r : Ro) (σ : L2.St) (r' : Ro) (σ' : L2.St) : Prop := ∀ (i : Nat) (x : Sl), r[i]? = some x → pinned x = true → (∃ y, r'[i]? = some y ∧ pinned y = true) ∧ σ'[i]? = σ[i]?
theorem Bor.refl {r : Ro} {σ : L2.St} : Bor r σ r σ := fun _ x h p => ⟨⟨x, h, p⟩, rfl⟩
theorem Bor.trans {r r1 r2 : Ro} {σ σ1 σ2 : L2.St} (a : Bor r σ r1 σ1) (b : Bor r1 σ1 r2 σ2) : Bor r σ r2 σ2 := fun i x h p => by
  obtain ⟨⟨y, h1, p1⟩, e1⟩ := a i x h p
  obtain ⟨z, e2⟩ := b i y h1 p1
  exact ⟨z, e2.trans e1⟩

section
variable {K : PySem.W.Frag} {B H B' H' : Hp} {σ : L2.St} {r : Ro} {O O' : Addr → Prop}
/-- nothing that is owned was touched -/
theorem Con0.mono (c : Con0 K B H σ r O) (sB : Same B B') (sH : Same B' H') (k : ∀ a, O a → H' a = H a) (off : ∀ a, O a → B' a = none) : Con0 K B' H' σ r O := by
  refine ⟨sH, off, fun a h => by rw [k a h]; exact c.liv a h, c.len, fun i b d e => ?_, fun i b ct e => ?_, fun i j b c1 b' c2 l l' F F' ne e1 e2 s1 s2 o1 o2 => ?_⟩
  · obtain ⟨v, h1, h2⟩ := c.frz i b d e
    exact ⟨v, h1, dp_same sB h2⟩
  · obtain ⟨l, F, h1, h2, h3⟩ := c.own i b ct e
    exact ⟨l, F, h1, ownR_same h2 sB fun a ha => k a (h3 a ha), h3⟩
  · obtain ⟨m, G, g1, g2, g3⟩ := c.own i b c1 e1
    obtain ⟨m', G', g1', g2', g3'⟩ := c.own j b' c2 e2
    rw [s1] at g1; cases g1
    rw [s2] at g1'; cases g1'
    rw [ownR_uniq g2 o1 fun a ha => k a (g3 a ha), ownR_uniq g2' o2 fun a ha => k a (g3' a ha)]
    exact c.sep i j b c1 b' c2 _ _ _ _ ne e1 e2 s1 s2 g2 g2'
theorem Con.mono (c : Con K B H σ r O) (sB : Same B B') (sH : Same B' H') (k : ∀ a, O a → H' a = H a) (off : ∀ a, O a → B' a = none) : Con K B' H' σ r O :=
  ⟨c.toCon0.mono sB sH k off, fun i j kk h b rows l as h1 h2 h3 => by
    obtain ⟨l0, F, g1, g2, g3⟩ := c.own j b _ h1
    rw [h2] at g1; cases g1
    rw [k _ (g3 _ (ownR_mem g2))] at h3
    exact c.al i j kk h b rows _ as h1 h2 h3⟩
/-- a value's result in the heap; H: the heap at the start -/
def RvR (K : PySem.W.Frag) (H B' H' : Hp) (O' : Addr → Prop) : RV → V → Prop
  | .val d, v => Dq K B' v d
  | .new c, v => ∃ l F, v = .ref l ∧ OwnR K B' H' c l F ∧ ∀ a ∈ F, H a = none ∧ B' a = none ∧ ¬ O' a
def AvR (K : PySem.W.Frag) (B' : Hp) (σ : L2.St) : AV → V → Prop
  | .val d, v => Dq K B' v d
  | .slot i, v => σ[i]? = some (some v)
theorem AvR.same {a : AV} {v : V} (e : Same B B') (h : AvR K B σ a v) : AvR K B' σ a v := by
  cases a with
  | val d => exact dp_same e h
  | slot i => exact h
/-- an operand looked at, in the heap -/
def RsR (K : PySem.W.Frag) (B H : Hp) : Rs → V → Prop
  | .fz d, v => Dq K B v d
  | .ow c, v => ∃ l F, v = .ref l ∧ OwnR K B H c l F
theorem paired_at {α β : Type} {F : α → β → Prop} : ∀ {l : List α} {m : List β} {k : Nat} {y : β}, Paired F l m → m[k]? = some y → ∃ x, l[k]? = some x ∧ F x y
  | _, _, _, _, .nil, e => by simp at e
  | _, _, 0, x, .cons h t, e => by simp at e; subst e; exact ⟨_, rfl, h⟩
  | _, _, k + 1, x, .cons h t, e => by
    obtain ⟨y, h1, h2⟩ := paired_at (k := k) t (by simpa using e)
    exact ⟨y, by simpa using h1, h2⟩
theorem Con.look2_ (c : Con K B H σ r O) {a : AV} {x : Rs} {v : V} (h : look2 r a = some x) (e : AvR K B σ a v) : RsR K B H x v := by
  cases a with
  | val d => cases h; exact e
  | slot i =>
    simp only [DL.look2] at h
    split at h
    · rename_i b d q
      cases h
      obtain ⟨v', h1, h2⟩ := c.frz i b d q
      rw [show σ[i]? = some (some v) from e] at h1; cases h1
      exact h2
    · rename_i b ct q
      cases h
      obtain ⟨l, F, h1, h2, h3⟩ := c.own i b ct q
      rw [show σ[i]? = some (some v) from e] at h1; cases h1
      exact ⟨l, F, rfl, h2⟩
    · rename_i j k q
      split at h
      · rename_i b rows q2
        cases q3 : rows[k]? with
        | none => rw [q3] at h; cases h
        | some ds =>
          rw [q3] at h
          cases h
          obtain ⟨l, F, h1, ⟨as, rfl, h2, nd, ra⟩, h3⟩ := c.own j b _ q2
          obtain ⟨a, g1, g2⟩ := c.al i j k q b rows l as q2 h1 h2
          rw [show σ[i]? = some (some v) from e] at g2; cases g2
          obtain ⟨a', g3, vs, g4, g5⟩ := paired_at ra q3
          rw [g1] at g3; cases g3
          exact ⟨_, _, rfl, rfl, vs, g4, g5⟩
      · cases h
    · cases h
theorem Con.looks2_ (c : Con K B H σ r O) : ∀ {as : List AV} {xs : List Rs} {vs : List V}, looks2 r as = some xs → Paired (AvR K B σ) as vs → Paired (RsR K B H) xs vs
  | [], xs, vs, h, e => by
    cases h; cases e; exact .nil
  | a :: as, xs, vs, h, e => by
    cases e with
    | cons e1 e2 =>
      simp only [DL.looks2] at h
      split at h
      · rename_i x ys h1 h2
        cases h
        exact .cons (c.look2_ h1 e1) (Con.looks2_ c h2 e2)
      · cases h
theorem Con.look (c : Con K B H σ r O) {a : AV} {x : Rs} {v : V} (h : look r a = some x) (e : AvR K B σ a v) : RsR K B H x v := by
  cases a with
  | val d => cases h; exact e
  | slot i =>
    simp only [DL.look] at h
    split at h
    · rename_i b d q
      cases h
      obtain ⟨v', h1, h2⟩ := c.frz i b d q
      rw [show σ[i]? = some (some v) from e] at h1; cases h1
      exact h2
    · rename_i b ct q
      cases h
      obtain ⟨l, F, h1, h2, h3⟩ := c.own i b ct q
      rw [show σ[i]? = some (some v) from e] at h1; cases h1
      exact ⟨l, F, rfl, h2⟩
    · cases h
theorem Con.looks (c : Con K B H σ r O) : ∀ {as : List AV} {xs : List Rs} {vs : List V}, looks r as = some xs → Paired (AvR K B σ) as vs → Paired (RsR K B H) xs vs
  | [], xs, vs, h, e => by
    cases h; cases e; exact .nil
  | a :: as, xs, vs, h, e => by
    cases e with
    | cons e1 e2 =>
      simp only [DL.looks] at h
      split at h
      · rename_i x ys h1 h2
        cases h
        exact .cons (c.look h1 e1) (Con.looks c h2 e2)
      · cases h
/-- what an operation lays -/
def Alc (K : PySem.W.Frag) (B H H' : Hp) : RV → V → Prop
  | .val d, v => (H' = H ∧ Dq K B v d) ∨ (∃ p vs ds o, H p = none ∧ TP o ∧ H' = upd H p (.frz o (.tup vs)) ∧ d = .tuple ds ∧ DqAll K B vs ds ∧ v = .ref p)
  | .new (.lst ds), v => ∃ p vs, H p = none ∧ H' = upd H p (.lst vs) ∧ DqAll K B vs ds ∧ v = .ref p
  | .new (.dK kvs), v => ∃ p vs, H p = none ∧ H' = upd H p (.dK vs) ∧ KvR K B vs kvs ∧ v = .ref p
  | .new (.dT kvs), v => ∃ p xs, H p = none ∧ H' = upd H p (DTo p xs) ∧ TkR K B p xs kvs ∧ v = .ref p
  | .new (.ll _), _ => False
  | .new (.dl _), _ => False
theorem same_new {p : Addr} {o : HO} (h : H p = none) : Same H (upd H p o) := fun b x e => by
  rw [upd_ne (ne_of_none e h)]; exact e
theorem Con.lay (c : Con K B H σ r O) {p : Addr} {o : HO} (hp : H p = none) : B p = none ∧ ¬ O p ∧ Con K B (upd H p o) σ r O ∧ Step B H O B (upd H p o) O := by
  have bp : B p = none := c.sub.free hp
  have np : ¬ O p := fun h => c.liv p h hp
  refine ⟨bp, np, c.mono (Same.refl _) (c.sub.trans (same_new hp)) (fun a h => ?_) c.off, ⟨Same.refl _, fun a o h _ => same_new hp _ _ h, fun a h => ?_, fun a _ _ h => h, fun a h => .inl h⟩⟩
  · rw [upd_ne (show a ≠ p from fun e => np (by rw [← e]; exact h))]
  · by_cases e : a = p
    · subst e; exact absurd hp h
    · rw [upd_ne e]; exact h
/-- a new object that stands still -/
theorem Con.layF (c : Con K B H σ r O) {p : Addr} {o : HO} (hp : H p = none) : Con K (upd B p o) (upd H p o) σ r O ∧ Step B H O (upd B p o) (upd H p o) O := by
  obtain ⟨bp, np, c1, s1⟩ := c.lay (o := o) hp
  have off : ∀ a, O a → upd B p o a = none := fun a h => by
    rw [upd_ne (show a ≠ p from fun e => np (by rw [← e]; exact h))]; exact c.off a h
  refine ⟨c1.mono (same_new bp) (fun a x h => ?_) (fun _ _ => rfl) off, ⟨same_new bp, s1.keep, s1.live, fun a h1 h2 h3 => ?_, s1.nO⟩⟩
  · by_cases e : a = p
    · subst e; rw [upd_same] at h ⊢; exact h
    · rw [upd_ne e] at h ⊢; exact c.sub a x h
  · rw [upd_ne (show a ≠ p from fun e => h1 (by rw [e]; exact hp))]; exact h3
theorem Con.alc (c : Con K B H σ r O) {x : RV} {v : V} (h : Alc K B H H' x v) : ∃ B', Step B H O B' H' O ∧ Con K B' H' σ r O ∧ RvR K H B' H' O x v := by
  cases x with
  | val d =>
    rcases h with ⟨rfl, h⟩ | ⟨p, vs, ds, o, hp, ht, rfl, rfl, h, rfl⟩
    · exact ⟨B, .refl, c, h⟩
    · obtain ⟨c1, s1⟩ := c.layF (o := .frz o (.tup vs)) hp
      exact ⟨_, s1, c1, .tup (tupAt_new ht) (dpa_same s1.sB h)⟩
  | new ct =>
    cases ct with
    | lst ds =>
      obtain ⟨p, vs, hp, rfl, h, rfl⟩ := h
      obtain ⟨bp, np, c1, s1⟩ := c.lay (o := .lst vs) hp
      exact ⟨B, s1, c1, p, [p], rfl, ⟨rfl, vs, upd_same, h⟩, fun a ha => by simp at ha; subst ha; exact ⟨hp, bp, np⟩⟩
    | dK kvs =>
      obtain ⟨p, vs, hp, rfl, h, rfl⟩ := h
      obtain ⟨bp, np, c1, s1⟩ := c.lay (o := .dK vs) hp
      exact ⟨B, s1, c1, p, [p], rfl, ⟨rfl, vs, upd_same, h⟩, fun a ha => by simp at ha; subst ha; exact ⟨hp, bp, np⟩⟩
    | dT kvs =>
      obtain ⟨p, vs, hp, rfl, h, rfl⟩ := h
      obtain ⟨bp, np, c1, s1⟩ := c.lay (o := DTo p vs) hp
      exact ⟨B, s1, c1, p, [p], rfl, ⟨rfl, vs, upd_same, h⟩, fun a ha => by simp at ha; subst ha; exact ⟨hp, bp, np⟩⟩
    | ll rows => exact h.elim
    | dl rows => exact h.elim
/-- an unowned list stands still from now on -/
theorem Con.still (c : Con K B H σ r O) {p : Addr} {o : HO} (hp : H p = some o) (bp : B p = none) (np : ¬ O p) : Con K (upd B p o) H σ r O := by
  refine c.mono (same_new bp) (fun a x h => ?_) (fun _ _ => rfl) fun a h => by rw [upd_ne (show a ≠ p from fun e => np (by rw [← e]; exact h))]; exact c.off a h
  by_cases e : a = p
  · subst e; rw [upd_same] at h; cases h; exact hp
  · rw [upd_ne e] at h; exact c.sub a x h
/-- a new result stands still from now on: its data -/
theorem Con.frozen (c : Con K B' H' σ r O') {x : RV} {d : D} {v : V} (s : Step B H O B' H' O') (h : RvR K H B' H' O' x v) (e : x.data = some d) : ∃ B2, Step B H O B2 H' O' ∧ Con K B2 H' σ r O' ∧ Dq K B2 v d ∧ Same B' B2 := by
  cases x with
  | val d' => cases e; exact ⟨B', s, c, h, Same.refl _⟩
  | new ct =>
    cases ct with
    | lst ds =>
      cases e
      obtain ⟨l, F, rfl, ⟨rfl, vs, e1, h1⟩, h2⟩ := h
      obtain ⟨n1, n2, n3⟩ := h2 l (by simp)
      have c2 := c.still e1 n2 n3
      refine ⟨_, ⟨s.sB.trans (same_new n2), s.keep, s.live, fun a q1 q2 q3 => ?_, s.nO⟩, c2, .lst upd_same (dpa_same (same_new n2) h1), same_new n2⟩
      rw [upd_ne (show a ≠ l from fun e => q1 (by rw [e]; exact n1))]
      exact s.nB a q1 q2 q3
    | dK _ => cases e
    | dT _ => cases e
    | ll _ => cases e
    | dl _ => cases e
end

/-- how an exception lies: its class -/
def XnR (K : PySem.W.Frag) (mg : Str → Option Value) (x : Exn) (cls : Value) (dx : Option Addr) (H : Hp) : Prop :=
  ∃ C, mg (Str.ofString x.cls) = some (.ref C) ∧ cls = .ref C ∧ match x.row with
    | none => dx = none
    | some n => ∃ d, dx = some d ∧ H d = some (.xd [("row", .int n)])
/-- where meanings are read: the written part, the module's names, what is wanted of an exception -/
structure Ct2 where
  K : PySem.W.Frag
  mg : Str → Option Value
abbrev Rl (α β : Type) := Hp → Hp → Hp → (Addr → Prop) → L2.St → α → β → Prop
/-- m from the state (B, r, O), with an end -/
def At {α β : Type} (G : Ct2) (W : WX) (m : M α) (R : Rl α β) (B : Hp) (r : Ro) (O : Addr → Prop) (σ : L2.St) (H : Hp) (Q : β → Hp → Prop) : Prop :=
  Con G.K B H σ r O ∧ ∃ o r', m r = some (o, r') ∧ match o with
    | .ok a => ∀ B' H' O' y, Step B H O B' H' O' → Con G.K B' H' σ r' O' → Bor r σ r' σ → R H B' H' O' σ a y → Q y H'
    | .exc x => ∀ B' H' O' c dx, Step B H O B' H' O' → Con G.K B' H' σ r' O' → Bor r σ r' σ → XnR G.K G.mg x c dx H' → W c dx σ H'
def tG {α β : Type} (G : Ct2) (W : WX) (m : M α) (R : Rl α β) (σ : L2.St) (H : Hp) (Q : β → Hp → Prop) : Prop := ∃ B r O, At G W m R B r O σ H Q
/-- a later start does -/
def Later {α β : Type} (R : Rl α β) : Prop := ∀ H H1 B' H' O' σ a y, (∀ p, H p ≠ none → H1 p ≠ none) → R H1 B' H' O' σ a y → R H B' H' O' σ a y
def rV (G : Ct2) : Rl RV V := fun H B' H' O' _ x v => RvR G.K H B' H' O' x v
def rA (G : Ct2) : Rl AV V := fun _ B' _ _ σ a v => AvR G.K B' σ a v
def rL (G : Ct2) : Rl (List AV) (List V) := fun _ B' _ _ σ as vs => Paired (AvR G.K B' σ) as vs
def rB : Rl Bool Bool := fun _ _ _ _ _ a b => a = b
theorem later_rV {G : Ct2} : Later (rV G) := fun H H1 B' H' O' σ a y k h => by
  cases a with
  | val d => exact h
  | new c =>
    obtain ⟨l, F, e, o, h⟩ := h
    refine ⟨l, F, e, o, fun a ha => ⟨?_, (h a ha).2⟩⟩
    by_cases q : H a = none
    · exact q
    · exact absurd (h a ha).1 (k a q)
theorem later_rL {G : Ct2} : Later (rL G) := fun _ _ _ _ _ _ _ _ _ h => h
theorem later_rB : Later rB := fun _ _ _ _ _ _ _ _ _ h => h
section
variable {G : Ct2} {W : WX} {α β γ δ : Type} {m : M α} {f : α → M γ} {R : Rl α β} {R2 : Rl γ δ} {B : Hp} {r : Ro} {O : Addr → Prop} {σ : L2.St} {H : Hp}
theorem At.mono {Q Q' : β → Hp → Prop} (h : At G W m R B r O σ H Q) (q : ∀ y H', Q y H' → Q' y H') : At G W m R B r O σ H Q' := by
  obtain ⟨c, o, r', e, p⟩ := h
  refine ⟨c, o, r', e, ?_⟩
  cases o with
  | ok a => exact fun B' H' O' y s c b x => q _ _ (p B' H' O' y s c b x)
  | exc x => exact p
theorem tG.of {Q : β → Hp → Prop} (h : At G W m R B r O σ H Q) : tG G W m R σ H Q := ⟨B, r, O, h⟩
/-- the first of two -/
theorem At.bind {Q : δ → Hp → Prop} (h : At G W (m.bind f) R2 B r O σ H Q) (hl : Later R2) :
    At G W m R B r O σ H fun y H1 => ∃ a B1 r1 O1, Step B H O B1 H1 O1 ∧ R H B1 H1 O1 σ a y ∧ At G W (f a) R2 B1 r1 O1 σ H1 Q := by
  obtain ⟨c, o, r', e, p⟩ := h
  refine ⟨c, ?_⟩
  unfold M.bind at e
  cases q : m r with
  | none => rw [q] at e; cases e
  | some z =>
    obtain ⟨o1, r1⟩ := z
    rw [q] at e
    refine ⟨o1, r1, rfl, ?_⟩
    cases o1 with
    | exc x =>
      cases e
      exact p
    | ok a =>
      intro B1 H1 O1 y s1 c1 b1 x1
      refine ⟨a, B1, r1, O1, s1, x1, c1, o, r', e, ?_⟩
      cases o with
      | ok a2 => exact fun B2 H2 O2 y2 s2 c2 b2 x2 => p B2 H2 O2 y2 (s1.trans s2) c2 (b1.trans b2) (hl H H1 _ _ _ _ _ _ s1.live x2)
      | exc x => exact fun B2 H2 O2 c2 dx s2 k2 b2 x2 => p B2 H2 O2 c2 dx (s1.trans s2) k2 (b1.trans b2) x2
theorem At.ret {a : α} {Q : β → Hp → Prop} (h : At G W (M.ret a) R B r O σ H Q) {y : β} (x : R H B H O σ a y) : Q y H := by
  obtain ⟨c, o, r', e, p⟩ := h
  cases e
  exact p B H O y .refl c .refl x
end
end DL
end

section
namespace DL
open PySem PySem.Spec PyProof.Rows L2

theorem get_set {α : Type} {l : List α} {i j : Nat} {x y : α} (h : (l.set i x)[j]? = some y) : (j = i ∧ y = x) ∨ (j ≠ i ∧ l[j]? = some y) := by
  by_cases e : j = i
  · subst e
    by_cases hl : j < l.length
    · rw [List.getElem?_set_self hl] at h; cases h; exact .inl ⟨rfl, rfl⟩
    · rw [List.getElem?_eq_none (by rw [List.length_set]; omega)] at h; cases h
  · rw [List.getElem?_set_ne (Ne.symm e)] at h; exact .inr ⟨e, h⟩

section
variable {K : PySem.W.Frag} {B H B' H' : Hp} {σ σ' : L2.St} {r : Ro} {O O' : Addr → Prop}
/-- slot i is told anew -/
theorem Con0.replace (c : Con0 K B H σ r O) {i : Nat} {x : Sl} (hl : σ'.length = σ.length) (hs : ∀ j, j ≠ i → σ'[j]? = σ[j]?)
    (hx : match x with
      | .non => True
      | .al _ _ => True
      | .frz _ d => ∃ v, σ'[i]? = some (some v) ∧ Dq K B v d
      | .own _ ct => ∃ l F, σ'[i]? = some (some (V.ref l)) ∧ OwnR K B H ct l F ∧ (∀ a ∈ F, O a) ∧ ∀ (j : Nat) b' c' l' F', j ≠ i → r[j]? = some (Sl.own b' c') → σ[j]? = some (some (V.ref l')) → OwnR K B H c' l' F' → ∀ a ∈ F, a ∉ F') :
    Con0 K B H σ' (r.set i x) O := by
  refine ⟨c.sub, c.off, c.liv, by rw [List.length_set, c.len, hl], fun j b d e => ?_, fun j b ct e => ?_, fun j k b c1 b' c2 l l' F F' ne e1 e2 s1 s2 o1 o2 => ?_⟩
  · rcases get_set e with ⟨rfl, rfl⟩ | ⟨n, e⟩
    · exact hx
    · rw [hs j n]; exact c.frz j b d e
  · rcases get_set e with ⟨rfl, rfl⟩ | ⟨n, e⟩
    · obtain ⟨l, F, h1, h2, h3, _⟩ := hx
      exact ⟨l, F, h1, h2, h3⟩
    · rw [hs j n]; exact c.own j b ct e
  · rcases get_set e1 with ⟨rfl, rfl⟩ | ⟨n1, f1⟩
    · rcases get_set e2 with ⟨rfl, _⟩ | ⟨n2, f2⟩
      · exact absurd rfl ne
      · obtain ⟨m, G, g1, g2, g3, g4⟩ := hx
        rw [s1] at g1; cases g1
        rw [hs k n2] at s2
        rw [ownR_uniq g2 o1 fun a _ => rfl]
        exact g4 k b' c2 l' F' n2 f2 s2 o2
    · rcases get_set e2 with ⟨rfl, rfl⟩ | ⟨n2, f2⟩
      · obtain ⟨m, G, g1, g2, g3, g4⟩ := hx
        rw [s2] at g1; cases g1
        rw [hs j n1] at s1
        rw [ownR_uniq g2 o2 fun a _ => rfl]
        exact fun a ha hb => g4 j b c1 l F n1 f1 s1 o1 a hb ha
      · rw [hs j n1] at s1
        rw [hs k n2] at s2
        exact c.sep j k b c1 b' c2 l l' F F' ne f1 f2 s1 s2 o1 o2
theorem noAl_of {r : Ro} {i i2 k : Nat} (h : noAl r i = true) : r[i2]? ≠ some (Sl.al i k) := fun e => by
  have := List.all_eq_true.mp h _ (List.mem_of_getElem? e)
  simp at this
theorem Con.replace (c : Con K B H σ r O) {i : Nat} {x : Sl} (hl : σ'.length = σ.length) (hs : ∀ j, j ≠ i → σ'[j]? = σ[j]?)
    (hx : match x with
      | .non => True
      | .al _ _ => False
      | .frz _ d => ∃ v, σ'[i]? = some (some v) ∧ Dq K B v d
      | .own _ ct => ∃ l F, σ'[i]? = some (some (V.ref l)) ∧ OwnR K B H ct l F ∧ (∀ a ∈ F, O a) ∧ ∀ (j : Nat) b' c' l' F', j ≠ i → r[j]? = some (Sl.own b' c') → σ[j]? = some (some (V.ref l')) → OwnR K B H c' l' F' → ∀ a ∈ F, a ∉ F')
    (hal : ∀ b rows, x = .own b (.ll rows) → noAl r i = true) : Con K B H σ' (r.set i x) O := by
  refine ⟨c.toCon0.replace hl hs (by cases x <;> first | exact hx | trivial), fun i2 j k h b rows l as h1 h2 h3 => ?_⟩
  rcases get_set h with ⟨rfl, z⟩ | ⟨n, g⟩
  · subst z; exact hx.elim
  · rw [hs i2 n]
    rcases get_set h1 with ⟨rfl, z⟩ | ⟨n1, g1⟩
    · exact absurd g (noAl_of (hal b rows z.symm))
    · rw [hs j n1] at h2
      exact c.al i2 j k g b rows l as g1 h2 h3
theorem Con.forget (c : Con K B H σ r O) (i : Nat) : Con K B H σ (r.set i .non) O := c.replace (x := .non) rfl (fun _ _ => rfl) trivial (fun _ _ e => by cases e)
/-- fewer addresses are owned -/
theorem Con.shrink (c : Con K B H σ r O) (hO : ∀ a, O' a → O a) (hF : ∀ (i : Nat) b ct l F, r[i]? = some (Sl.own b ct) → σ[i]? = some (some (V.ref l)) → OwnR K B H ct l F → ∀ a ∈ F, O' a) : Con K B H σ r O' :=
  ⟨⟨c.sub, fun a h => c.off a (hO a h), fun a h => c.liv a (hO a h), c.len, c.frz, fun i b ct e => by
    obtain ⟨l, F, h1, h2, h3⟩ := c.own i b ct e
    exact ⟨l, F, h1, h2, hF i b ct l F e h1 h2⟩, c.sep⟩, c.al⟩
/-- more addresses are owned -/
theorem Con.grow (c : Con K B H σ r O) {F : List Addr} (hF : ∀ a ∈ F, B a = none ∧ H a ≠ none) : Con K B H σ r (fun a => O a ∨ a ∈ F) :=
  ⟨⟨c.sub, fun a h => h.elim (c.off a) fun h => (hF a h).1, fun a h => h.elim (c.liv a) fun h => (hF a h).2, c.len, c.frz, fun i b ct e => by
    obtain ⟨l, F, h1, h2, h3⟩ := c.own i b ct e
    exact ⟨l, F, h1, h2, fun a ha => .inl (h3 a ha)⟩, c.sep⟩, c.al⟩
theorem Con0.shrink0 (c : Con0 K B H σ r O) (hO : ∀ a, O' a → O a) (hF : ∀ (i : Nat) b ct l F, r[i]? = some (Sl.own b ct) → σ[i]? = some (some (V.ref l)) → OwnR K B H ct l F → ∀ a ∈ F, O' a) : Con0 K B H σ r O' :=
  ⟨c.sub, fun a h => c.off a (hO a h), fun a h => c.liv a (hO a h), c.len, c.frz, fun i b ct e => by
    obtain ⟨l, F, h1, h2, h3⟩ := c.own i b ct e
    exact ⟨l, F, h1, h2, hF i b ct l F e h1 h2⟩, c.sep⟩
theorem Con0.grow0 (c : Con0 K B H σ r O) {F : List Addr} (hF : ∀ a ∈ F, B a = none ∧ H a ≠ none) : Con0 K B H σ r (fun a => O a ∨ a ∈ F) :=
  ⟨c.sub, fun a h => h.elim (c.off a) fun h => (hF a h).1, fun a h => h.elim (c.liv a) fun h => (hF a h).2, c.len, c.frz, fun i b ct e => by
    obtain ⟨l, F, h1, h2, h3⟩ := c.own i b ct e
    exact ⟨l, F, h1, h2, fun a ha => .inl (h3 a ha)⟩, c.sep⟩
/-- slot i is let go: its addresses are no longer owned -/
theorem Con.release (c : Con K B H σ r O) {i : Nat} {b : Bool} {ct : Ct} {l : Addr} {F : List Addr} (e : r[i]? = some (Sl.own b ct)) (hs : σ[i]? = some (some (V.ref l))) (o : OwnR K B H ct l F) :
    Con K B H σ (r.set i .non) (fun a => O a ∧ a ∉ F) := by
  refine (c.forget i).shrink (fun _ h => h.1) fun j b' c' l' F' e' s' o' a ha => ?_
  rcases get_set e' with ⟨_, z⟩ | ⟨n, e'⟩
  · cases z
  · obtain ⟨m, G, g1, g2, g3⟩ := c.own j b' c' e'
    rw [s'] at g1; cases g1
    refine ⟨?_, fun z => c.sep i j b ct b' c' l l' F F' (Ne.symm n) e e' hs s' o o' a z ha⟩
    rw [ownR_uniq o' g2 fun _ _ => rfl] at g3
    exact g3 a ha
/-- an owned list stands still from now on -/
theorem Con.freeze (c : Con K B H σ r O) {i : Nat} {b : Bool} {ds : List D} (e : r[i]? = some (Sl.own b (.lst ds))) :
    ∃ B' O' v, σ[i]? = some (some v) ∧ Dq K B' v (.list ds) ∧ Step B H O B' H O' ∧ Con K B' H σ (r.set i (.frz b (.list ds))) O' := by
  obtain ⟨l, F, h1, o, h3⟩ := c.own i b _ e
  obtain ⟨rfl, vs, h4, h5⟩ := id o
  have c1 := c.release e h1 o
  have bl : B l = none := c.off l (h3 l (by simp))
  have c2 := c1.still h4 bl (fun h : O l ∧ l ∉ [l] => h.2 (by simp))
  have dp : Dq K (upd B l (.lst vs)) (.ref l) (.list ds) := .lst upd_same (dpa_same (same_new bl) h5)
  refine ⟨upd B l (.lst vs), fun a => O a ∧ a ∉ [l], .ref l, h1, dp, ⟨same_new bl, fun _ _ h _ => h, fun _ h => h, fun a q1 q2 q3 => ?_, fun a h => .inl h.1⟩, ?_⟩
  · rw [upd_ne (show a ≠ l from fun z => q2 (by rw [z]; exact h3 l (by simp)))]
    exact q3
  · have c3 := c2.replace (i := i) (x := .frz b (.list ds)) rfl (fun _ _ => rfl) ⟨_, h1, dp⟩ (fun _ _ e => by cases e)
    rw [List.set_set] at c3
    exact c3
/-- lists that are nobody's stand still from now on -/
theorem Con.stillAll : ∀ {as : List Addr} {rows : List (List D)} {B : Hp} (c : Con K B H σ r O) (ra : RowsAt K B H as rows) (nd : as.Nodup) (hb : ∀ a ∈ as, B a = none ∧ ¬ O a), ∃ B', Same B B' ∧ (∀ a, a ∉ as → B' a = B a) ∧ Con K B' H σ r O ∧ DqAll K B' (as.map V.ref) (rows.map .list)
  | [], _, B, c, .nil, _, _ => ⟨B, Same.refl _, fun _ _ => rfl, c, .nil⟩
  | a :: as, ds :: rows, B, c, .cons h t, nd, hb => by
    obtain ⟨vs, h1, h2⟩ := h
    simp only [List.nodup_cons] at nd
    obtain ⟨b1, n1⟩ := hb a (by simp)
    have c1 := c.still h1 b1 n1
    have sm := same_new (o := .lst vs) b1
    have t' : RowsAt K (upd B a (.lst vs)) H as rows := rowsAt_same sm t fun _ _ => rfl
    obtain ⟨B', s', k', c', d'⟩ := Con.stillAll c1 t' nd.2 fun x hx => by
      rw [upd_ne (show x ≠ a from fun e => nd.1 (e ▸ hx))]
      exact hb x (by simp [hx])
    refine ⟨B', sm.trans s', fun x hx => ?_, c', .cons (.lst (s' _ _ upd_same) (dpa_same (sm.trans s') h2)) d'⟩
    simp only [List.mem_cons, not_or] at hx
    rw [k' x hx.2, upd_ne hx.1]
/-- an owned list of lists stands still from now on -/
theorem Con.freezeLL (c : Con K B H σ r O) {i : Nat} {b : Bool} {rows : List (List D)} (e : r[i]? = some (Sl.own b (.ll rows))) :
    ∃ B' O' v, σ[i]? = some (some v) ∧ Dq K B' v (.list (rows.map .list)) ∧ Step B H O B' H O' ∧ Con K B' H σ (r.set i (.frz b (.list (rows.map .list)))) O' := by
  obtain ⟨l, F, h1, o, h3⟩ := c.own i b _ e
  obtain ⟨as, rfl, h4, nd, ra⟩ := id o
  have c1 := c.release e h1 o
  simp only [List.nodup_cons] at nd
  have off : ∀ a ∈ l :: as, B a = none := fun a ha => c.off a (h3 a ha)
  obtain ⟨B1, s1, k1, c2, d2⟩ := c1.stillAll ra nd.2 fun a ha => ⟨off a (by simp [ha]), fun z => z.2 (by simp [ha])⟩
  have bl : B1 l = none := by rw [k1 l nd.1]; exact off l (by simp)
  have c3 := c2.still h4 bl (fun h : O l ∧ l ∉ l :: as => h.2 (by simp))
  have dp : Dq K (upd B1 l (.lst (as.map V.ref))) (.ref l) (.list (rows.map .list)) := .lst upd_same (dpa_same (same_new bl) d2)
  refine ⟨upd B1 l (.lst (as.map V.ref)), fun a => O a ∧ a ∉ l :: as, .ref l, h1, dp, ⟨s1.trans (same_new bl), fun _ _ h _ => h, fun _ h => h, fun a q1 q2 q3 => ?_, fun a h => .inl h.1⟩, ?_⟩
  · have hn : a ∉ l :: as := fun z => q2 (h3 a z)
    simp only [List.mem_cons, not_or] at hn
    rw [upd_ne hn.1, k1 a hn.2]
    exact q3
  · have c4 := c3.replace (i := i) (x := .frz b (.list (rows.map .list))) rfl (fun _ _ => rfl) ⟨_, h1, dp⟩ (fun _ _ e => by cases e)
    rw [List.set_set] at c4
    exact c4
/-- slot i looks into the list of lists in slot j -/
theorem Con.setAl (c : Con K B H σ r O) {i j k : Nat} {b : Bool} {rows : List (List D)} {l a : Addr} {as : List Addr} (hi : i < σ.length) (hj : r[j]? = some (Sl.own b (.ll rows))) (hs : σ[j]? = some (some (V.ref l))) (hH : H l = some (.lst (as.map V.ref))) (ha : as[k]? = some a) (ne : i ≠ j) :
    Con K B H (σ.set i (some (.ref a))) (r.set i (.al j k)) O := by
  refine ⟨c.toCon0.replace (x := .al j k) List.length_set (fun j n => List.getElem?_set_ne (Ne.symm n)) trivial, fun i2 j2 k2 h b2 rows2 l2 as2 h1 h2 h3 => ?_⟩
  rcases get_set h1 with ⟨_, z⟩ | ⟨n1, h1⟩
  · cases z
  · rw [List.getElem?_set_ne (Ne.symm n1)] at h2
    rcases get_set h with ⟨rfl, z⟩ | ⟨n, h⟩
    · cases z
      rw [hs] at h2; cases h2
      rw [hH] at h3
      have := ref_inj (HO.lst.inj (Option.some.inj h3))
      subst this
      exact ⟨a, ha, List.getElem?_set_self hi⟩
    · rw [List.getElem?_set_ne (Ne.symm n)]
      exact c.al i2 j2 k2 h b2 rows2 l2 as2 h1 h2 h3
/-- shared data is stored in slot i -/
theorem Con.setF (c : Con K B H σ r O) {i : Nat} {b : Bool} {v : V} {d : D} (hi : i < σ.length) (h : Dq K B v d) : Con K B H (σ.set i (some v)) (r.set i (.frz b d)) O :=
  c.replace (x := .frz b d) List.length_set (fun j n => List.getElem?_set_ne (Ne.symm n)) ⟨v, List.getElem?_set_self hi, h⟩ (fun _ _ e => by cases e)
/-- a new object is stored in slot i -/
theorem Con.setN (c : Con K B H σ r O) {H0 : Hp} {i : Nat} {b : Bool} {v : V} {ct : Ct} (hi : i < σ.length) (h : RvR K H0 B H O (.new ct) v) (hal : ∀ rows, ct = .ll rows → noAl r i = true) :
    ∃ F : List Addr, (∀ a ∈ F, H0 a = none ∧ B a = none ∧ ¬ O a) ∧ Con K B H (σ.set i (some v)) (r.set i (.own b ct)) (fun a => O a ∨ a ∈ F) := by
  obtain ⟨l, F, rfl, o, hF⟩ := h
  refine ⟨F, hF, ?_⟩
  have c1 := c.grow (F := F) fun a ha => ⟨(hF a ha).2.1, ownR_some o a ha⟩
  refine c1.replace (x := .own b ct) List.length_set (fun j n => List.getElem?_set_ne (Ne.symm n)) ⟨l, F, List.getElem?_set_self hi, o, fun a ha => .inr ha, fun j b' c' l' F' n e' s' o' a ha hb => ?_⟩ (fun b2 rows e => by cases e; exact hal rows rfl)
  obtain ⟨m, G, g1, g2, g3⟩ := c.own j b' c' e'
  rw [s'] at g1; cases g1
  rw [ownR_uniq o' g2 fun _ _ => rfl] at g3
  exact (hF a ha).2.2 (g3 a hb)
/-- an owned object is changed in place -/
theorem Con.change (c : Con K B H σ r O) {i : Nat} {b : Bool} {ct ct' : Ct} {l : Addr} {F F' : List Addr} (e : r[i]? = some (Sl.own b ct)) (hs : σ[i]? = some (some (V.ref l))) (o : OwnR K B H ct l F)
    (k : ∀ a, a ∉ F → H' a = H a) (o' : OwnR K B H' ct' l F') (hF : ∀ a ∈ F', a ∈ F) (live : ∀ a, H a ≠ none → H' a ≠ none)
    (hal : ∀ rows, ct' = .ll rows → noAl r i = true ∨ (H' l = H l ∧ ∃ rows0, ct = .ll rows0)) : Con K B H' σ (r.set i (.own b ct')) O ∧ Step B H O B H' O := by
  obtain ⟨l0, F0, g1, g2, g3⟩ := c.own i b ct e
  rw [hs] at g1; cases g1
  have hFO : ∀ a ∈ F, O a := fun a ha => by
    rw [ownR_uniq g2 o fun _ _ => rfl] at ha
    exact g3 a ha
  have c1 := (c.release e hs o).toCon0
  have c2 := c1.mono (H' := H') (Same.refl _) (fun a x h => by
    by_cases q : a ∈ F
    · rw [c.off a (hFO a q)] at h; cases h
    · rw [k a q]; exact c.sub a x h) (fun a h => k a h.2) c1.off
  have c3 := c2.grow0 (F := F) fun a ha => ⟨c.off a (hFO a ha), live a (c.liv a (hFO a ha))⟩
  have c4 := c3.replace (i := i) (x := .own b ct') rfl (fun _ _ => rfl) ⟨l, F', hs, o', fun a ha => .inr (hF a ha), fun j b2 c2' l2 F2 n e2 s2 o2 a ha hb => by
    rcases get_set e2 with ⟨_, z⟩ | ⟨n, e2⟩
    · cases z
    · obtain ⟨m, G, q1, q2, q3⟩ := c.own j b2 c2' e2
      rw [s2] at q1; cases q1
      have hz : F2 = G := ownR_uniq q2 o2 fun a ha => k a fun hz => c.sep i j b ct b2 c2' l l2 F G (Ne.symm n) e e2 hs s2 o q2 a hz ha
      subst hz
      exact c.sep i j b ct b2 c2' l l2 F F2 (Ne.symm n) e e2 hs s2 o q2 a (hF a ha) hb⟩
  rw [List.set_set] at c4
  refine ⟨⟨c4.shrink0 (fun a h => ?_) fun j b2 c2' l2 F2 e2 s2 o2 a ha => ?_, fun i2 j k2 h b2 rows l2 as h1 h2 h3 => ?_⟩, ⟨Same.refl _, fun a x h n => ?_, live, fun _ _ _ h => h, fun _ h => .inl h⟩⟩
  · by_cases q : a ∈ F
    · exact .inr q
    · exact .inl ⟨h, q⟩
  · obtain ⟨m, G, q1, q2, q3⟩ := c4.own j b2 c2' e2
    rw [s2] at q1; cases q1
    rw [ownR_uniq o2 q2 fun _ _ => rfl] at q3
    exact (q3 a ha).elim (fun h => h.1) fun h => hFO a h
  · rcases get_set h with ⟨rfl, z⟩ | ⟨n, g⟩
    · cases z
    · rcases get_set h1 with ⟨rfl, z⟩ | ⟨n1, g1⟩
      · cases z
        rw [hs] at h2; cases h2
        rcases hal rows rfl with q | ⟨q, rows0, rfl⟩
        · exact absurd g (noAl_of q)
        · rw [q] at h3
          exact c.al i2 j k2 g b rows0 _ as e hs h3
      · obtain ⟨m, G, q1, q2, q3⟩ := c.own j b2 _ g1
        rw [h2] at q1; cases q1
        rw [k _ (fun hz => c.sep i j b ct b2 _ l _ F G (Ne.symm n1) e g1 hs h2 o q2 _ hz (ownR_mem q2))] at h3
        exact c.al i2 j k2 g b2 rows _ as g1 h2 h3
  · rw [k a fun z => n (hFO a z)]; exact h
end

abbrev Cx.g (X : Cx) : Ct2 := ⟨X.K, X.mg⟩
def DE (X : Cx) (W : WX) (e : Expr) (m : M RV) : Prop := PE X e (tG (Cx.g X) W m (rV (Cx.g X)))
def DO (X : Cx) (W : WX) (e : Expr) (m : M AV) : Prop := PE X e (tG (Cx.g X) W m (rA (Cx.g X)))
def DA (X : Cx) (W : WX) (es : List Expr) (m : M (List AV)) : Prop := PA X es (tG (Cx.g X) W m (rL (Cx.g X)))
def DB (X : Cx) (W : WX) (e : Expr) (m : M Bool) : Prop := PT X e (tG (Cx.g X) W m rB)
theorem pe_weak {X : Cx} {e : Expr} {t t' : TE} (h : PE X e t) (w : ∀ σ H Q, t' σ H Q → t σ H Q) : PE X e t' := ⟨fun pins s σ H Q I q => h.run pins s σ H Q I (w σ H Q q)⟩
theorem pt_weak {X : Cx} {e : Expr} {t t' : TT} (h : PT X e t) (w : ∀ σ H Q, t' σ H Q → t σ H Q) : PT X e t' := ⟨fun pins s σ H Q I q => h.run pins s σ H Q I (w σ H Q q)⟩
theorem pa_weak {X : Cx} {e : List Expr} {t t' : TA} (h : PA X e t) (w : ∀ σ H Q, t' σ H Q → t σ H Q) : PA X e t' := ⟨fun pos pins s σ H Q I q => h.run pos pins s σ H Q I (w σ H Q q)⟩
theorem ps_weak {X : Cx} {e : Stmt} {t t' : TS} (h : PS X e t) (w : ∀ D σ H, t' D σ H → t D σ H) : PS X e t' := ⟨fun pins s σ H D I q => h.run pins s σ H D I (w D σ H q)⟩

theorem bind_assoc {α β γ : Type} (m : M α) (f : α → M β) (k : β → M γ) : (m.bind f).bind k = m.bind fun a => (f a).bind k := by
  funext r
  unfold M.bind
  cases m r with
  | none => rfl
  | some z => obtain ⟨o, r'⟩ := z; cases o <;> rfl
theorem ret_bind {α β : Type} (a : α) (f : α → M β) : (M.ret a).bind f = f a := rfl
theorem mOp_one (g : List Rs → Option RV) (a : M AV) : mOp g [a] = a.bind fun x => mFin g [x] := by
  unfold mOp oL oL
  simp only [bind_assoc, ret_bind]
theorem mOp_two (g : List Rs → Option RV) (a b : M AV) : mOp g [a, b] = a.bind fun x => b.bind fun y => mFin g [x, y] := by
  unfold mOp oL oL oL
  simp only [bind_assoc, ret_bind]

section
variable {X : Cx} {W : WX}
theorem de_const {e : Expr} {v : V} {d : D} (h : PE X e (tC v)) (hd : ∀ B, Dq X.K B v d) : DE X W e (mC d) := pe_weak h fun σ H Q ⟨B, r, O, h⟩ => h.ret (hd B)
theorem de_int {i j pos} : DE X W (.Constant (.int i) j pos) (mC (.int i)) := de_const pe_int fun _ => .int i
theorem de_bl {i j pos} : DE X W (.Constant (.bool i) j pos) (mC (.bool i)) := de_const pe_bl fun _ => .bl i
theorem de_non {j pos} : DE X W (.Constant .none j pos) (mC .none) := de_const pe_non fun _ => .non
theorem de_str {x j pos} : DE X W (.Constant (.str x) j pos) (mC (.str x)) := de_const pe_str fun _ => .str x
theorem bor_set {r : Ro} {σ : L2.St} {i : Nat} {x y : Sl} (h : r[i]? = some x) (hp : pinned x = true → pinned y = true) : Bor r σ (r.set i y) σ := fun j z hz pz => by
  refine ⟨?_, rfl⟩
  by_cases e : j = i
  · subst e
    rw [h] at hz; cases hz
    obtain ⟨hl, _⟩ := List.getElem?_eq_some_iff.mp h
    exact ⟨y, List.getElem?_set_self hl, hp pz⟩
  · exact ⟨z, by rw [List.getElem?_set_ne (Ne.symm e)]; exact hz, pz⟩
/-- the slot i as a value -/
theorem rd_var {i : Nat} {σ : L2.St} {H : Hp} {Q : VK} : tG (Cx.g X) W (mRd i) (rV (Cx.g X)) σ H Q → tVar i σ H Q := fun ⟨B, r, O, c, o, r', e, p⟩ => by
  unfold mRd at e
  split at e
  · rename_i b d q
    cases e
    obtain ⟨v, h1, h2⟩ := c.frz i b d q
    exact ⟨v, h1, p B H O v .refl c .refl h2⟩
  · rename_i b ds q
    cases e
    obtain ⟨B', O', v, h1, h2, s, c'⟩ := c.freeze q
    exact ⟨v, h1, p B' H O' v s c' (bor_set q fun z => z) h2⟩
  · rename_i b rows q
    cases e
    obtain ⟨B', O', v, h1, h2, s, c'⟩ := c.freezeLL q
    exact ⟨v, h1, p B' H O' v s c' (bor_set q fun z => z) h2⟩
  · cases e
theorem de_var {e : Expr} {i : Nat} (h : PE X e (tVar i)) : DE X W e (mRd i) := pe_weak h fun σ H Q => rd_var
/-- the slot i as an operand -/
theorem do_var {e : Expr} {i : Nat} (h : PE X e (tVar i)) : DO X W e (oS i) := pe_weak h fun σ H Q ⟨B, r, O, c, o, r', e, p⟩ => by
  unfold oS at e
  split at e
  · rename_i x q
    cases e
    have : ∃ v, σ[i]? = some (some v) := by
      simp only [look2] at q
      split at q
      · rename_i b d z
        obtain ⟨v, h1, _⟩ := c.frz i b d z
        exact ⟨v, h1⟩
      · rename_i b ct z
        obtain ⟨l, F, h1, _⟩ := c.own i b ct z
        exact ⟨_, h1⟩
      · rename_i j k z
        split at q
        · rename_i b rows z2
          cases z3 : rows[k]? with
          | none => rw [z3] at q; cases q
          | some ds =>
            obtain ⟨l, F, h1, ⟨as, rfl, h2, nd, ra⟩, h3⟩ := c.own j b _ z2
            obtain ⟨a, g1, g2⟩ := c.al i j k z b rows l as z2 h1 h2
            exact ⟨_, g2⟩
        · cases q
      · cases q
    obtain ⟨v, h1⟩ := this
    exact ⟨v, h1, p B H O v .refl c .refl h1⟩
  · cases e
/-- an expression as an operand -/
theorem do_of {e : Expr} {m : M RV} (h : DE X W e m) : DO X W e (oE m) := pe_weak h fun σ H Q ⟨B, r, O, c, o, r', e, p⟩ => by
  refine ⟨B, r, O, c, ?_⟩
  unfold oE M.bind at e
  cases q : m r with
  | none => rw [q] at e; cases e
  | some z =>
    obtain ⟨o1, r1⟩ := z
    rw [q] at e
    refine ⟨o1, r1, rfl, ?_⟩
    cases o1 with
    | exc x => cases e; exact p
    | ok rv =>
      simp only [M.of] at e
      cases qd : rv.data with
      | none => rw [qd] at e; cases e
      | some d =>
        rw [qd] at e
        cases e
        intro B1 H1 O1 v s1 c1 b1 x1
        obtain ⟨B2, s2, c2, dp, _⟩ := c1.frozen s1 x1 qd
        exact p B2 H1 O1 v s2 c2 b1 dp
theorem da_nil : DA X W [] (oL []) := pa_weak pa_nil fun σ H Q ⟨B, r, O, h⟩ => h.ret .nil
theorem da_cons {e : Expr} {es : List Expr} {m : M AV} {ms : List (M AV)} (h : DO X W e m) (t : DA X W es (oL ms)) (hs : starEach (e :: es) X.env = (false, eval e X.env) :: starEach es X.env := by rfl) : DA X W (e :: es) (oL (m :: ms)) := pa_weak (pa_cons h t hs) fun σ H Q ⟨B, r, O, h⟩ => by
  refine tG.of ((h.bind later_rL (R := rA (Cx.g X))).mono ?_)
  rintro x H1 ⟨a, B1, r1, O1, s1, x1, h1⟩
  refine tG.of ((h1.bind later_rL (R := rL (Cx.g X))).mono ?_)
  rintro xs H2 ⟨as, B2, r2, O2, s2, x2, h2⟩
  exact h2.ret (Paired.cons (x1.same s2.sB) x2)
end
end DL
end

section
namespace DL
open PySem
/-- at most so many items -/
def lineD : Nat := 16777216
/-- a place in a row, from the front or (below nought) from behind -/
def ixD (n : Nat) (i : Int) : Option Nat := if 0 ≤ i then (if i < n then some i.toNat else none) else if -(n : Int) ≤ i then some (i + n).toNat else none
def I2 (f : Int → Int → Option D) : List Rs → Option RV
  | [.fz (.int i), .fz (.int j)] => (f i j).map .val
  | _ => none
def gSub : List Rs → Option RV := I2 fun i j => some (.int (i - j))
def gMod : List Rs → Option RV := I2 fun i j => if 0 < j then some (.int (i % j)) else none
def gDiv : List Rs → Option RV := I2 fun i j => if 0 < j ∧ j.natAbs.log2 < 9000 then some (.int (i / j)) else none
def gPow : List Rs → Option RV := I2 fun i j => if 0 ≤ j ∧ j ≤ 1000000 ∧ i.natAbs < 2 ^ 64 then some (.int (i ^ j.toNat)) else none
def gLt : List Rs → Option RV := I2 fun i j => some (.bool (decide (i < j)))
def gLe : List Rs → Option RV := I2 fun i j => some (.bool (decide (i ≤ j)))
def gGt : List Rs → Option RV := I2 fun i j => some (.bool (decide (j < i)))
def gGe : List Rs → Option RV := I2 fun i j => some (.bool (decide (j ≤ i)))
/-- + -/
def addD : D → D → Option RV
  | .int i, .int j => some (.val (.int (i + j)))
  | .tuple xs, .tuple ys => if xs.length + ys.length ≤ lineD then some (.val (.tuple (xs ++ ys))) else none
  | .list xs, .list ys => if xs.length + ys.length ≤ lineD then some (.new (.lst (xs ++ ys))) else none
  | _, _ => none
def gAdd : List Rs → Option RV
  | [a, b] => match a.data, b.data with
    | some x, some y => addD x y
    | _, _ => none
  | _ => none
/-- * -/
def mulD : D → D → Option RV
  | .int i, .int j => if i.natAbs.log2 + j.natAbs.log2 < 1000000 then some (.val (.int (i * j))) else none
  | .list xs, .int k => if -(2 ^ 63) ≤ k ∧ k < 2 ^ 63 ∧ xs.length * k.toNat ≤ lineD then some (.new (.lst (List.replicate k.toNat xs).flatten)) else none
  | _, _ => none
def gMul : List Rs → Option RV
  | [a, b] => match a.data, b.data with
    | some x, some y => mulD x y
    | _, _ => none
  | _ => none
/-- such data can be compared -/
def okD (d : D) : Bool := d.canLay0 && decide (d.depth ≤ 64)
def gEq : List Rs → Option RV
  | [a, b] => match a.data, b.data with
    | some x, some y => if okD x && okD y then some (.val (.bool (PyData.eqv x y))) else none
    | _, _ => none
  | _ => none
def gNe : List Rs → Option RV
  | [a, b] => match a.data, b.data with
    | some x, some y => if okD x && okD y then some (.val (.bool (!PyData.eqv x y))) else none
    | _, _ => none
  | _ => none
/-- o[i] of lists and tuples -/
def getD : D → D → Option D
  | .list xs, .int i => (ixD xs.length i).bind fun j => xs[j]?
  | .tuple xs, .int i => (ixD xs.length i).bind fun j => xs[j]?
  | _, _ => none
def gIx : List Rs → Option RV
  | [a, b] => match a.data, b.data with
    | some x, some y => (getD x y).map .val
    | _, _ => none
  | _ => none
def gAbs : List Rs → Option RV
  | [.fz (.int i)] => some (.val (.int (if i < 0 then -i else i)))
  | _ => none
def intsD : List D → Option (List Int)
  | [] => some []
  | .int i :: r => (intsD r).map (i :: ·)
  | _ => none
def gMax2 : List Rs → Option RV := I2 fun i j => some (.int (if j > i then j else i))
def gMin2 : List Rs → Option RV := I2 fun i j => some (.int (if j < i then j else i))
def rowOf : D → Option (List D)
  | .list xs => some xs
  | .tuple xs => some xs
  | _ => none
def gList : List Rs → Option RV
  | [a] => (a.data.bind rowOf).map fun xs => .new (.lst xs)
  | _ => none
def gTuple : List Rs → Option RV
  | [a] => (a.data.bind rowOf).map fun xs => .val (.tuple xs)
  | _ => none
def dataAll : List Rs → Option (List D)
  | [] => some []
  | .fz d :: r => (dataAll r).map (d :: ·)
  | .ow _ :: _ => none
/-- (a, b, ..): operands that stand still -/
def gTup (as : List Rs) : Option RV := (dataAll as).bind fun ds => if ds.length ≤ lineD then some (.val (.tuple ds)) else none
def gLst (as : List Rs) : Option RV := (dataAll as).bind fun ds => if ds.length ≤ lineD then some (.new (.lst ds)) else none
def boolV : RV → Option Bool
  | .val (.bool b) => some b
  | _ => none
/-- a test by a value that is True or False -/
def mTst (m : M RV) : M Bool := m.bind fun v => M.of (boolV v)
def mNot (m : M Bool) : M Bool := m.bind fun b => M.ret (!b)
def mAnd (a b : M Bool) : M Bool := a.bind fun x => if x then b else M.ret false
def mOr (a b : M Bool) : M Bool := a.bind fun x => if x then M.ret true else b
/-- a test by truth -/
def mFz (m : M RV) : M D := m.bind fun v => M.of v.data
/-- the values of and, or, not: all but the last are True or False -/
def mAndV (a b : M RV) : M RV := a.bind fun v => match v with
  | .val (.bool true) => b
  | .val (.bool false) => M.ret (.val (.bool false))
  | _ => M.of none
def mNotV (a : M RV) : M RV := a.bind fun v => match v with
  | .val (.bool b) => M.ret (.val (.bool !b))
  | _ => M.of none
end DL
end

section
namespace DL
open PySem PySem.Spec PyProof.Rows L2
theorem line_eq : lineD = sizeLine := by rw [sizeLine_eq]; rfl

section
variable {X : Cx} {W : WX}
def OpD (X : Cx) (f : Value → Value → Sem Value) (g : List Rs → Option RV) : Prop :=
  OpR X f fun x y H Q => ∃ B a b z, Same B H ∧ RsR X.K B H a x ∧ RsR X.K B H b y ∧ g [a, b] = some z ∧ ∀ H' v, Alc X.K B H H' z v → Q v H'
def IxOD (X : Cx) (g : List Rs → Option RV) : Prop :=
  IxR X fun x y H Q => ∃ B a b z, Same B H ∧ RsR X.K B H a x ∧ RsR X.K B H b y ∧ g [a, b] = some z ∧ ∀ H' v, Alc X.K B H H' z v → Q v H'
def UnD (X : Cx) (f : Value → Sem Value) (g : List Rs → Option RV) : Prop :=
  UnR X f fun x H Q => ∃ B a z, Same B H ∧ RsR X.K B H a x ∧ g [a] = some z ∧ ∀ H' v, Alc X.K B H H' z v → Q v H'
def CallD (X : Cx) (f : Value) (g : List Rs → Option RV) : Prop :=
  CallR X f fun vs H Q => ∃ B as z, Same B H ∧ Paired (RsR X.K B H) as vs ∧ g as = some z ∧ ∀ H' v, Alc X.K B H H' z v → Q v H'
theorem At.fin {g : List Rs → Option RV} {as : List AV} {B : Hp} {r : Ro} {O : Addr → Prop} {σ : L2.St} {H : Hp} {vs : List V} {Q : VK} (h : At (Cx.g X) W (mFin g as) (rV (Cx.g X)) B r O σ H Q) (x : Paired (AvR X.K B σ) as vs) :
    ∃ xs z, Same B H ∧ Paired (RsR X.K B H) xs vs ∧ g xs = some z ∧ ∀ H' v, Alc X.K B H H' z v → Q v H' := by
  obtain ⟨c, o, r', e, p⟩ := h
  unfold mFin at e
  split at e
  · cases e
  · rename_i xs q
    cases qg : g xs with
    | none => rw [qg] at e; cases e
    | some z =>
      rw [qg] at e
      cases e
      refine ⟨xs, z, c.sub, c.looks2_ q x, qg, fun H' v a => ?_⟩
      obtain ⟨B', s, c', rv⟩ := c.alc a
      exact p B' H' O v s c' .refl rv
theorem At.ofBool {v : RV} {B : Hp} {r : Ro} {O : Addr → Prop} {σ : L2.St} {H H0 : Hp} {y : V} {Q : Bool → Hp → Prop} (h : At (Cx.g X) W (M.of (boolV v)) rB B r O σ H Q) (x : rV (Cx.g X) H0 B H O σ v y) : ∃ k, y = .bl k ∧ Q k H := by
  obtain ⟨c, o, r', e, p⟩ := h
  cases v with
  | val d =>
    cases d with
    | bool b =>
      cases e
      exact ⟨b, dp_bl x, p B H O b .refl c .refl rfl⟩
    | _ => cases e
  | new c => cases e
theorem two_ops {e1 e2 : Expr} {oa ob : M AV} {g : List Rs → Option RV} {σ : L2.St} {H : Hp} {Q : VK} (h : tG (Cx.g X) W (mOp g [oa, ob]) (rV (Cx.g X)) σ H Q) :
    tOp (fun x y H Q => ∃ B a b z, Same B H ∧ RsR X.K B H a x ∧ RsR X.K B H b y ∧ g [a, b] = some z ∧ ∀ H' v, Alc X.K B H H' z v → Q v H') (tG (Cx.g X) W oa (rA (Cx.g X))) (tG (Cx.g X) W ob (rA (Cx.g X))) σ H Q := by
  obtain ⟨B, r, O, h⟩ := h
  rw [mOp_two] at h
  refine tG.of ((h.bind later_rV (R := rA (Cx.g X))).mono ?_)
  rintro x H1 ⟨a, B1, r1, O1, s1, x1, h1⟩
  refine tG.of ((h1.bind later_rV (R := rA (Cx.g X))).mono ?_)
  rintro y H2 ⟨b, B2, r2, O2, s2, x2, h2⟩
  obtain ⟨xs, z, sb, p, hg, q⟩ := h2.fin (.cons (x1.same s2.sB) (.cons x2 .nil))
  cases p with
  | cons p1 p => cases p with
    | cons p2 p =>
      cases p
      exact ⟨B2, _, _, z, sb, p1, p2, hg, q⟩
theorem de_bin {a b : Expr} {op : Operator} {pos : Pos} {g : List Rs → Option RV} {oa ob : M AV} (ho : OpD X (binaryOp op) g) (ha : DO X W a oa) (hb : DO X W b ob) : DE X W (.BinOp a op b pos) (mOp g [oa, ob]) :=
  pe_weak (pe_op ho ha hb) fun σ H Q h => two_ops (e1 := a) (e2 := b) h
theorem de_cmp {a b : Expr} {op : CmpOp} {pos : Pos} {g : List Rs → Option RV} {oa ob : M AV} (ho : OpD X (compareOp op) g) (ha : DO X W a oa) (hb : DO X W b ob) (hm : behindInMarks op b = false) : DE X W (.Compare a [op] [b] pos) (mOp g [oa, ob]) :=
  pe_weak (pe_cmpR ho ha hb hm) fun σ H Q h => two_ops (e1 := a) (e2 := b) h
theorem de_ix {a b : Expr} {pos : Pos} {g : List Rs → Option RV} {oa ob : M AV} (ho : IxOD X g) (ha : DO X W a oa) (hb : DO X W b ob) (hs : PlainIx b) : DE X W (.Subscript a b pos) (mOp g [oa, ob]) :=
  pe_weak (pe_ix ho ha hb hs) fun σ H Q h => two_ops (e1 := a) (e2 := b) h
theorem de_un {a : Expr} {op : UnaryOp} {pos : Pos} {g : List Rs → Option RV} {oa : M AV} (ho : UnD X (unaryOp op) g) (ha : DO X W a oa) : DE X W (.UnaryOp op a pos) (mOp g [oa]) :=
  pe_weak (pe_un ho ha) fun σ H Q ⟨B, r, O, h⟩ => by
    rw [mOp_one] at h
    refine tG.of ((h.bind later_rV (R := rA (Cx.g X))).mono ?_)
    rintro x H1 ⟨a, B1, r1, O1, s1, x1, h1⟩
    obtain ⟨xs, z, sb, p, hg, q⟩ := h1.fin (.cons x1 .nil)
    cases p with
    | cons p1 p => cases p; exact ⟨B1, _, z, sb, p1, hg, q⟩
/-- a test from a comparison -/
theorem db_cmp {a b : Expr} {op : CmpOp} {pos : Pos} {g : List Rs → Option RV} {oa ob : M AV} (ho : OpD X (compareOp op) g) (ha : DO X W a oa) (hb : DO X W b ob) (hm : behindInMarks op b = false) : DB X W (.Compare a [op] [b] pos) (mTst (mOp g [oa, ob])) :=
  pt_weak (pt_cmpR ho ha hb hm) fun σ H Q ⟨B, r, O, h⟩ => by
    refine two_ops (e1 := a) (e2 := b) (tG.of ((h.bind later_rB (R := rV (Cx.g X))).mono ?_))
    rintro y H1 ⟨v, B1, r1, O1, s1, x1, h1⟩
    exact h1.ofBool x1
end
end DL
end

section
namespace DL
open PySem PySem.Spec PyProof.Rows L2

section
variable {K : PySem.W.Frag} {B H : Hp}
/-- a row that is looked at -/
theorem rs_list {a : Rs} {ds : List D} {v : V} (sb : Same B H) (h : RsR K B H a v) (e : a.data = some (.list ds)) : ∃ l vs, v = .ref l ∧ H l = some (.lst vs) ∧ DqAll K B vs ds := by
  cases a with
  | fz d =>
    cases e
    obtain ⟨l, vs, rfl, s, d⟩ := dp_list h
    exact ⟨l, vs, rfl, sb _ _ s, d⟩
  | ow c =>
    cases c with
    | lst es =>
      cases e
      obtain ⟨l, F, rfl, _, vs, e1, d⟩ := h
      exact ⟨l, vs, rfl, e1, d⟩
    | dK _ => cases e
    | dT _ => cases e
    | ll _ => cases e
    | dl _ => cases e
theorem rs_tuple {a : Rs} {ds : List D} {v : V} (sb : Same B H) (h : RsR K B H a v) (e : a.data = some (.tuple ds)) : ∃ l vs, v = .ref l ∧ TupAt H l vs ∧ DqAll K B vs ds := by
  cases a with
  | fz d =>
    cases e
    obtain ⟨l, vs, rfl, s, d⟩ := dp_tuple h
    exact ⟨l, vs, rfl, tup_same sb s, d⟩
  | ow c => cases c <;> cases e
theorem rs_dp {a : Rs} {d : D} {v : V} (sb : Same B H) (h : RsR K B H a v) (e : a.data = some d) : Dq K H v d := by
  cases a with
  | fz d' => cases e; exact dp_same sb h
  | ow c =>
    cases c with
    | lst es =>
      cases e
      obtain ⟨l, F, rfl, _, vs, e1, d⟩ := h
      exact .lst e1 (dpa_same sb d)
    | dK _ => cases e
    | dT _ => cases e
    | ll _ => cases e
    | dl _ => cases e
theorem rs_int {a : Rs} {i : Int} {v : V} (h : RsR K B H a v) (e : a.data = some (.int i)) : v = .int i := by
  cases a with
  | fz d => cases e; exact dp_int h
  | ow c => cases c <;> cases e
theorem rs_str {a : Rs} {i : Str} {v : V} (h : RsR K B H a v) (e : a.data = some (.str i)) : v = .str i := by
  cases a with
  | fz d => cases e; exact dp_str h
  | ow c => cases c <;> cases e
theorem alc_val {v : V} {d : D} {Q : VK} (q : ∀ H' v, Alc K B H H' (.val d) v → Q v H') (h : Dq K B v d) : Q v H := q H v (.inl ⟨rfl, h⟩)
theorem alc_tup {vs : List V} {ds : List D} {Q : VK} (q : ∀ H' v, Alc K B H H' (.val (.tuple ds)) v → Q v H') (h : DqAll K B vs ds) (p : Addr) (o : Obj) (hp : H p = none) (ht : TP o) : Q (.ref p) (upd H p (.frz o (.tup vs))) :=
  q _ _ (.inr ⟨p, vs, ds, o, hp, ht, rfl, rfl, h, rfl⟩)
theorem alc_lst {vs : List V} {ds : List D} {Q : VK} (q : ∀ H' v, Alc K B H H' (.new (.lst ds)) v → Q v H') (h : DqAll K B vs ds) (p : Addr) (hp : H p = none) : Q (.ref p) (upd H p (.lst vs)) :=
  q _ _ ⟨p, vs, hp, rfl, h, rfl⟩
end

section
variable {X : Cx} {W : WX}
theorem i2_of {f : Int → Int → Option D} {a b : Rs} {z : RV} (h : I2 f [a, b] = some z) : ∃ i j d, a = .fz (.int i) ∧ b = .fz (.int j) ∧ f i j = some d ∧ z = .val d := by
  unfold I2 at h
  split at h
  · rename_i i j e
    cases e
    cases q : f i j with
    | none => rw [q] at h; cases h
    | some d => rw [q] at h; cases h; exact ⟨i, j, d, rfl, rfl, q, rfl⟩
  · cases h
/-- from a rule on ints -/
theorem opD_int {f : Value → Value → Sem Value} {C : Int → Int → Prop} {g : Int → Int → V} {k : Int → Int → Option D} (ho : OpR X f (rI C g)) (hk : ∀ i j d, k i j = some d → C i j ∧ ∀ B, Dq X.K B (g i j) d) : OpD X f (I2 k) := by
  intro pins s σ H x y v u Q I rx ry ⟨B, a, b, z, sb, r1, r2, hg, q⟩
  obtain ⟨i, j, d, rfl, rfl, e, rfl⟩ := i2_of hg
  obtain ⟨hc, hd⟩ := hk i j d e
  exact ho pins s σ H x y v u Q I rx ry ⟨i, j, dp_int r1, dp_int r2, hc, alc_val q (hd B)⟩
theorem opD_int0 {f : Value → Value → Sem Value} {g : Int → Int → V} {k : Int → Int → Option D} (ho : OpR X f (rI0 g)) (hk : ∀ i j d, k i j = some d → ∀ B, Dq X.K B (g i j) d) : OpD X f (I2 k) := by
  intro pins s σ H x y v u Q I rx ry ⟨B, a, b, z, sb, r1, r2, hg, q⟩
  obtain ⟨i, j, d, rfl, rfl, e, rfl⟩ := i2_of hg
  exact ho pins s σ H x y v u Q I rx ry ⟨i, j, dp_int r1, dp_int r2, alc_val q (hk i j d e B)⟩
theorem od_sub : OpD X (binaryOp .Sub) gSub := opD_int0 op_sub fun i j d e B => by cases e; exact .int _
theorem od_mod : OpD X (binaryOp .Mod) gMod := opD_int op_mod fun i j d e => by
  split at e
  · rename_i h; cases e; exact ⟨h, fun B => .int _⟩
  · cases e
theorem od_div : OpD X (binaryOp .FloorDiv) gDiv := opD_int op_fdivW fun i j d e => by
  split at e
  · rename_i h; cases e; exact ⟨h, fun B => .int _⟩
  · cases e
theorem od_pow : OpD X (binaryOp .Pow) gPow := opD_int op_pow fun i j d e => by
  split at e
  · rename_i h; cases e; exact ⟨h, fun B => .int _⟩
  · cases e
theorem od_lt : OpD X (compareOp .Lt) gLt := opD_int0 op_lt fun i j d e B => by cases e; exact .bl _
theorem od_le : OpD X (compareOp .LtE) gLe := opD_int0 op_le fun i j d e B => by cases e; exact .bl _
theorem od_gt : OpD X (compareOp .Gt) gGt := opD_int0 op_gt fun i j d e B => by cases e; exact .bl _
theorem od_ge : OpD X (compareOp .GtE) gGe := opD_int0 op_ge fun i j d e B => by cases e; exact .bl _
theorem g2_of {f : D → D → Option RV} {a b : Rs} {z : RV} (h : (match a.data, b.data with | some x, some y => f x y | _, _ => none) = some z) : ∃ x y, a.data = some x ∧ b.data = some y ∧ f x y = some z := by
  split at h
  · rename_i x y e1 e2; exact ⟨x, y, e1, e2, h⟩
  · cases h
theorem od_add : OpD X (binaryOp .Add) gAdd := by
  intro pins s σ H x y v u Q I rx ry ⟨B, a, b, z, sb, r1, r2, hg, q⟩
  obtain ⟨d, e, h1, h2, hf⟩ := g2_of hg
  unfold addD at hf
  split at hf
  · cases hf
    exact op_add pins s σ H x y v u Q I rx ry ⟨_, _, rs_int r1 h1, rs_int r2 h2, alc_val q (.int _)⟩
  · rename_i xs ys
    split at hf
    · rename_i hl
      cases hf
      obtain ⟨l, vs, rfl, s1, d1⟩ := rs_tuple sb r1 h1
      obtain ⟨m, ws, rfl, s2, d2⟩ := rs_tuple sb r2 h2
      refine fop_cat pins s σ H _ _ v u Q I rx ry ⟨l, m, vs, ws, rfl, rfl, s1.sq, s2.sq, by rw [d1.length, d2.length, ← line_eq]; exact hl, fun e => ?_, fun _ e => ?_, fun _ _ => alc_tup q (d1.append d2)⟩
      · subst e
        cases d1
        cases b with
        | fz d' => cases h2; exact alc_val q r2
        | ow c => cases c <;> cases h2
      · subst e
        cases d2
        rw [List.append_nil] at q
        cases a with
        | fz d' => cases h1; exact alc_val q r1
        | ow c => cases c <;> cases h1
    · cases hf
  · rename_i xs ys
    split at hf
    · rename_i hl
      cases hf
      obtain ⟨l, vs, rfl, s1, d1⟩ := rs_list sb r1 h1
      obtain ⟨m, ws, rfl, s2, d2⟩ := rs_list sb r2 h2
      exact op_cat pins s σ H _ _ v u Q I rx ry ⟨l, m, vs, ws, rfl, rfl, s1, s2, by rw [d1.length, d2.length, ← line_eq]; exact hl, alc_lst q (d1.append d2)⟩
    · cases hf
  · cases hf
theorem DqAll.rep {K : PySem.W.Frag} {H : Hp} {vs : List V} {ds : List D} (h : DqAll K H vs ds) : ∀ k : Nat, DqAll K H (List.replicate k vs).flatten (List.replicate k ds).flatten
  | 0 => .nil
  | k + 1 => by
    rw [List.replicate_succ, List.replicate_succ, List.flatten_cons, List.flatten_cons]
    exact h.append (DqAll.rep h k)
theorem od_mul : OpD X (binaryOp .Mult) gMul := by
  intro pins s σ H x y v u Q I rx ry ⟨B, a, b, z, sb, r1, r2, hg, q⟩
  obtain ⟨d, e, h1, h2, hf⟩ := g2_of hg
  unfold mulD at hf
  split at hf
  · split at hf
    · rename_i hc
      cases hf
      exact op_mulW pins s σ H x y v u Q I rx ry ⟨_, _, rs_int r1 h1, rs_int r2 h2, hc, alc_val q (.int _)⟩
    · cases hf
  · rename_i xs k
    split at hf
    · rename_i hc
      cases hf
      obtain ⟨l, vs, rfl, s1, d1⟩ := rs_list sb r1 h1
      exact op_rep pins s σ H _ y v u Q I rx ry ⟨l, k, vs, rfl, rs_int r2 h2, s1, hc.1, hc.2.1, by rw [d1.length, ← line_eq]; exact hc.2.2, alc_lst q (d1.rep k.toNat)⟩
    · cases hf
  · cases hf
theorem okD_shaped {d : D} (h : okD d = true) : SeqAt.shaped d = true := h
theorem okD_lay {d : D} (h : okD d = true) : d.canLay0 = true := (Bool.and_eq_true_iff.mp h).1
theorem od_eq (hu : X.A.units + 64 < cLine) : OpD X (compareOp .Eq) gEq := by
  intro pins s σ H x y v u Q I rx ry ⟨B, a, b, z, sb, r1, r2, hg, q⟩
  obtain ⟨d, e, h1, h2, hf⟩ := g2_of hg
  split at hf
  · rename_i hc
    cases hf
    obtain ⟨k1, k2⟩ := Bool.and_eq_true_iff.mp hc
    exact op_eqD hu pins s σ H x y v u Q I rx ry ⟨d, e, dq_dp (rs_dp sb r1 h1) (okD_lay k1), dq_dp (rs_dp sb r2 h2) (okD_lay k2), okD_shaped k1, okD_shaped k2, alc_val q (.bl _)⟩
  · cases hf
theorem od_ne (hu : X.A.units + 64 < cLine) : OpD X (compareOp .NotEq) gNe := by
  intro pins s σ H x y v u Q I rx ry ⟨B, a, b, z, sb, r1, r2, hg, q⟩
  obtain ⟨d, e, h1, h2, hf⟩ := g2_of hg
  split at hf
  · rename_i hc
    cases hf
    obtain ⟨k1, k2⟩ := Bool.and_eq_true_iff.mp hc
    exact op_neD hu pins s σ H x y v u Q I rx ry ⟨d, e, dq_dp (rs_dp sb r1 h1) (okD_lay k1), dq_dp (rs_dp sb r2 h2) (okD_lay k2), okD_shaped k1, okD_shaped k2, alc_val q (.bl _)⟩
  · cases hf
theorem cd_abs : CallD X (.builtin "abs") gAbs := by
  intro pins s σ H vs us Q I r ⟨B, as, z, sb, p, hg, q⟩
  unfold gAbs at hg
  split at hg
  · cases hg
    cases p with
    | cons p1 p =>
      cases p
      cases dp_int p1
      exact call_abs pins s σ H _ us Q I r ⟨_, rfl, alc_val q (.int _)⟩
  · cases hg
theorem cd_i2 {f : Value} {k : Int → Int → Option D} {g : Int → Int → Int} (ho : CallR X f (fun xs H Q => ∃ i j, xs = [.int i, .int j] ∧ Q (.int (g i j)) H)) (hk : ∀ i j d, k i j = some d → d = .int (g i j)) : CallD X f (I2 k) := by
  intro pins s σ H vs us Q I r ⟨B, as, z, sb, p, hg, q⟩
  unfold I2 at hg
  split at hg
  · rename_i i j
    cases e : k i j with
    | none => rw [e] at hg; cases hg
    | some d =>
      rw [e] at hg
      cases hg
      have := hk i j d e
      subst this
      cases p with
      | cons p1 p =>
        cases p with
        | cons p2 p =>
          cases p
          cases dp_int p1
          cases dp_int p2
          exact ho pins s σ H _ us Q I r ⟨i, j, rfl, alc_val q (.int _)⟩
  · cases hg
theorem cd_max2 (hc : X.calm = true) : CallD X (.builtin "max") gMax2 := cd_i2 (call_max2 hc) fun i j d e => by cases e; rfl
theorem cd_min2 (hc : X.calm = true) : CallD X (.builtin "min") gMin2 := cd_i2 (call_min2 hc) fun i j d e => by cases e; rfl
theorem row_of {d : D} {xs : List D} (h : rowOf d = some xs) : d = .list xs ∨ d = .tuple xs := by
  cases d <;> first | (cases h; first | exact .inl rfl | exact .inr rfl) | cases h
theorem cd_list : CallD X (.type "list") gList := by
  intro pins s σ H vs us Q I r ⟨B, as, z, sb, p, hg, q⟩
  unfold gList at hg
  split at hg
  · rename_i a
    cases e : a.data.bind rowOf with
    | none => rw [e] at hg; cases hg
    | some xs =>
      rw [e] at hg
      cases hg
      obtain ⟨d, e1, e2⟩ := Option.bind_eq_some_iff.mp e
      cases p with
      | cons p1 p =>
        cases p
        rcases row_of e2 with rfl | rfl
        · obtain ⟨l, vs, rfl, s1, d1⟩ := rs_list sb p1 e1
          exact call_list_of pins s σ H _ us Q I r ⟨l, vs, rfl, .inl (.of s1), alc_lst q d1⟩
        · obtain ⟨l, vs, rfl, s1, d1⟩ := rs_tuple sb p1 e1
          exact call_list_of pins s σ H _ us Q I r ⟨l, vs, rfl, .inr s1.sq, alc_lst q d1⟩
  · cases hg
theorem cd_tuple : CallD X (.type "tuple") gTuple := by
  intro pins s σ H vs us Q I r ⟨B, as, z, sb, p, hg, q⟩
  unfold gTuple at hg
  split at hg
  · rename_i a
    cases e : a.data.bind rowOf with
    | none => rw [e] at hg; cases hg
    | some xs =>
      rw [e] at hg
      cases hg
      obtain ⟨d, e1, e2⟩ := Option.bind_eq_some_iff.mp e
      cases p with
      | cons p1 p =>
        cases p
        rcases row_of e2 with rfl | rfl
        · obtain ⟨l, vs, rfl, s1, d1⟩ := rs_list sb p1 e1
          exact fcall_tuple pins s σ H _ us Q I r ⟨l, vs, rfl, .inl ⟨.of s1, alc_tup q d1⟩⟩
        · obtain ⟨l, vs, rfl, s1, d1⟩ := rs_tuple sb p1 e1
          refine fcall_tuple pins s σ H _ us Q I r ⟨l, vs, rfl, .inr ⟨s1.sq, ?_⟩⟩
          cases a with
          | fz d' => cases e1; exact alc_val q p1
          | ow c => cases c <;> cases e1
  · cases hg
theorem ixd_get : IxOD X gIx := by
  intro value slice pins s σ H x y v u Q I rx ry ⟨B, a, b, z, sb, r1, r2, hg, q⟩ hs
  obtain ⟨d, e, h1, h2, hf⟩ := g2_of hg
  cases hz : getD d e with
  | none => rw [hz] at hf; cases hf
  | some w =>
    rw [hz] at hf
    cases hf
    unfold getD at hz
    split at hz
    · rename_i xs i
      obtain ⟨j, e1, e2⟩ := Option.bind_eq_some_iff.mp hz
      obtain ⟨l, vs, rfl, s1, d1⟩ := rs_list sb r1 h1
      obtain ⟨v', e3, e4⟩ := d1.get e2
      refine ix_list value slice pins s σ H _ y v u Q I rx ry ⟨l, vs, i, v', rfl, rs_int r2 h2, .of s1, ?_, alc_val q e4⟩ hs
      unfold atI
      rw [d1.length, show ixN xs.length i = some j from e1]
      exact e3
    · rename_i xs i
      obtain ⟨j, e1, e2⟩ := Option.bind_eq_some_iff.mp hz
      obtain ⟨l, vs, rfl, s1, d1⟩ := rs_tuple sb r1 h1
      obtain ⟨v', e3, e4⟩ := d1.get e2
      refine ix_tup value slice pins s σ H _ y v u Q I rx ry ⟨l, vs, i, v', rfl, rs_int r2 h2, s1.sq, ?_, alc_val q e4⟩ hs
      unfold atI
      rw [d1.length, show ixN xs.length i = some j from e1]
      exact e3
    · cases hz
end
end DL
end

section
namespace DL
open PySem PySem.Spec PyProof.Rows L2
section
variable {X : Cx} {W : WX}
def DW (X : Cx) (W : WX) (e : Expr) (m : M Bool) : Prop := PW X e (tG (Cx.g X) W m rB)
theorem pw_weak {e : Expr} {t t' : TT} (h : PW X e t) (w : ∀ σ H Q, t' σ H Q → t σ H Q) : PW X e t' := ⟨fun whole pins s σ H Q I q => h.run whole pins s σ H Q I (w σ H Q q)⟩
theorem db_not {a : Expr} {pos : Pos} {m : M Bool} (h : DB X W a m) : DB X W (.UnaryOp .Not a pos) (mNot m) := pt_weak (pt_not h) fun σ H Q ⟨B, r, O, h⟩ => by
  refine tG.of ((h.bind later_rB (R := rB)).mono ?_)
  rintro y H1 ⟨v, B1, r1, O1, s1, x1, h1⟩
  cases x1
  exact h1.ret rfl
theorem dw_and1 {a : Expr} {pos : Pos} {m : M Bool} (h : DB X W a m) : DW X W (.BoolOp .And [a] pos) m := pw_and1 h
theorem dw_or1 {a : Expr} {pos : Pos} {m : M Bool} (h : DB X W a m) : DW X W (.BoolOp .Or [a] pos) m := pw_or1 h
theorem dw_and {a b : Expr} {es : List Expr} {pos : Pos} {m n : M Bool} (h : DB X W a m) (t : DW X W (.BoolOp .And (b :: es) pos) n) : DW X W (.BoolOp .And (a :: b :: es) pos) (mAnd m n) := pw_weak (pw_and h t) fun σ H Q ⟨B, r, O, h⟩ => by
  refine tG.of ((h.bind later_rB (R := rB)).mono ?_)
  rintro y H1 ⟨v, B1, r1, O1, s1, x1, h1⟩
  cases x1
  cases y with
  | true => exact iteT (tG.of h1)
  | false => exact iteF (h1.ret rfl)
theorem dw_or {a b : Expr} {es : List Expr} {pos : Pos} {m n : M Bool} (h : DB X W a m) (t : DW X W (.BoolOp .Or (b :: es) pos) n) : DW X W (.BoolOp .Or (a :: b :: es) pos) (mOr m n) := pw_weak (pw_or h t) fun σ H Q ⟨B, r, O, h⟩ => by
  refine tG.of ((h.bind later_rB (R := rB)).mono ?_)
  rintro y H1 ⟨v, B1, r1, O1, s1, x1, h1⟩
  cases x1
  cases y with
  | true => exact iteT (h1.ret rfl)
  | false => exact iteF (tG.of h1)
theorem db_w {e : Expr} {m : M Bool} (h : DW X W e m) : DB X W e m := PW.pt h
/-- an expression that gives True or False, as a test -/
theorem db_val {e : Expr} {m : M RV} (h : DE X W e m) (he : ∀ whole, isTrue e X.env whole = (do let v ← whole; standAt e.pos; holding [v] (truthy v)) := by intro _; rfl) : DB X W e (mTst m) := pt_weak (pt_val h he) fun σ H Q ⟨B, r, O, h⟩ => by
  refine tG.of ((h.bind later_rB (R := rV (Cx.g X))).mono ?_)
  rintro y H1 ⟨v, B1, r1, O1, s1, x1, h1⟩
  exact h1.ofBool x1
def rD (G : Ct2) : Rl D V := fun _ B' _ _ _ d v => Dq G.K B' v d
/-- a result that stands still from now on -/
theorem At.froz {m : M RV} {B : Hp} {r : Ro} {O : Addr → Prop} {σ : L2.St} {H : Hp} {Q : VK} (h : At (Cx.g X) W (mFz m) (rD (Cx.g X)) B r O σ H Q) : At (Cx.g X) W m (rV (Cx.g X)) B r O σ H Q := by
  obtain ⟨c, o, r', e, p⟩ := h
  refine ⟨c, ?_⟩
  unfold mFz M.bind at e
  cases q : m r with
  | none => rw [q] at e; cases e
  | some z =>
    obtain ⟨o1, r1⟩ := z
    rw [q] at e
    refine ⟨o1, r1, rfl, ?_⟩
    cases o1 with
    | exc x => cases e; exact p
    | ok rv =>
      simp only [M.of] at e
      cases qd : rv.data with
      | none => rw [qd] at e; cases e
      | some d =>
        rw [qd] at e
        cases e
        intro B1 H1 O1 v s1 c1 b1 x1
        obtain ⟨B2, s2, c2, dp, _⟩ := c1.frozen s1 x1 qd
        exact p B2 H1 O1 v s2 c2 b1 dp
theorem At.no {α β : Type} {R : Rl α β} {B : Hp} {r : Ro} {O : Addr → Prop} {σ : L2.St} {H : Hp} {Q : β → Hp → Prop} (h : At (Cx.g X) W (M.of none) R B r O σ H Q) : False := by
  obtain ⟨c, o, r', e, p⟩ := h
  cases e
theorem bool_of {v : RV} : (∃ b, v = .val (.bool b)) ∨ ∀ b, v ≠ .val (.bool b) := by
  cases v with
  | val d => cases d with
    | bool b => exact .inl ⟨b, rfl⟩
    | _ => exact .inr fun b e => by cases e
  | new c => exact .inr fun b e => by cases e
theorem de_one {a : Expr} {op : BoolOp} {pos : Pos} {m : M RV} (h : DE X W a m) : DE X W (.BoolOp op [a] pos) m := pe_one h
theorem de_and {a b : Expr} {es : List Expr} {pos : Pos} {m n : M RV} (h : DE X W a m) (t : DE X W (.BoolOp .And (b :: es) pos) n) : DE X W (.BoolOp .And (a :: b :: es) pos) (mAndV m n) := pe_weak (pe_and h t) fun σ H Q ⟨B, r, O, h⟩ => by
  refine tG.of ((h.bind later_rV (R := rV (Cx.g X))).mono ?_)
  rintro y H1 ⟨v, B1, r1, O1, s1, x1, h1⟩
  rcases bool_of (v := v) with ⟨b, rfl⟩ | n
  · cases dp_bl x1
    cases b with
    | true => exact ⟨true, rfl, iteT (tG.of h1)⟩
    | false => exact ⟨false, rfl, iteF (h1.ret (.bl _))⟩
  · split at h1
    · exact absurd rfl (n _)
    · exact absurd rfl (n _)
    · exact h1.no.elim
theorem de_not {a : Expr} {pos : Pos} {m : M RV} (h : DE X W a m) : DE X W (.UnaryOp .Not a pos) (mNotV m) := pe_weak (pe_not h) fun σ H Q ⟨B, r, O, h⟩ => by
  refine tG.of ((h.bind later_rV (R := rV (Cx.g X))).mono ?_)
  rintro y H1 ⟨v, B1, r1, O1, s1, x1, h1⟩
  rcases bool_of (v := v) with ⟨b, rfl⟩ | n
  · cases dp_bl x1
    exact ⟨b, rfl, h1.ret (.bl _)⟩
  · split at h1
    · exact absurd rfl (n _)
    · exact h1.no.elim
theorem dataAll_of {K : PySem.W.Frag} {B H : Hp} : ∀ {as : List Rs} {ds : List D} {vs : List V}, dataAll as = some ds → Paired (RsR K B H) as vs → DqAll K B vs ds
  | [], _, _, h, p => by cases h; cases p; exact .nil
  | .fz d :: as, ds, _, h, p => by
    cases p with
    | cons p1 p =>
      cases q : dataAll as with
      | none => simp only [dataAll, q] at h; cases h
      | some es =>
        simp only [dataAll, q] at h
        cases h
        exact .cons p1 (dataAll_of q p)
  | .ow c :: as, ds, _, h, p => by cases h
theorem At.ops {ms : List (M AV)} {g : List Rs → Option RV} {B : Hp} {r : Ro} {O : Addr → Prop} {σ : L2.St} {H : Hp} {Q : VK} (h : At (Cx.g X) W (mOp g ms) (rV (Cx.g X)) B r O σ H Q) :
    At (Cx.g X) W (oL ms) (rL (Cx.g X)) B r O σ H fun vs H1 => ∃ B1 xs z, Same B1 H1 ∧ Paired (RsR X.K B1 H1) xs vs ∧ g xs = some z ∧ ∀ H' v, Alc X.K B1 H1 H' z v → Q v H' := by
  refine (h.bind later_rV (R := rL (Cx.g X))).mono ?_
  rintro vs H1 ⟨as, B1, r1, O1, s1, x1, h1⟩
  obtain ⟨xs, z, sb, p, hg, q⟩ := h1.fin x1
  exact ⟨B1, xs, z, sb, p, hg, q⟩
theorem de_tup {es : List Expr} {x1 : Nat} {pos : Pos} {ms : List (M AV)} (h : DA X W es (oL ms)) : DE X W (.Tuple es x1 pos) (mOp gTup ms) := pe_weak (fe_tup h) fun σ H Q ⟨B, r, O, h⟩ => by
  refine tG.of (h.ops.mono ?_)
  rintro vs H1 ⟨B1, xs, z, sb, p, hg, q⟩
  unfold gTup at hg
  obtain ⟨ds, e1, e2⟩ := Option.bind_eq_some_iff.mp hg
  split at e2
  · rename_i hl
    cases e2
    have d := dataAll_of e1 p
    exact ⟨by rw [d.length, ← line_eq]; exact hl, alc_tup q d⟩
  · cases e2
theorem de_lst {es : List Expr} {pos : Pos} {ms : List (M AV)} (h : DA X W es (oL ms)) : DE X W (.List es pos) (mOp gLst ms) := pe_weak (pe_lst h) fun σ H Q ⟨B, r, O, h⟩ => by
  refine tG.of (h.ops.mono ?_)
  rintro vs H1 ⟨B1, xs, z, sb, p, hg, q⟩
  unfold gLst at hg
  obtain ⟨ds, e1, e2⟩ := Option.bind_eq_some_iff.mp hg
  split at e2
  · rename_i hl
    cases e2
    have d := dataAll_of e1 p
    exact ⟨by rw [d.length, ← line_eq]; exact hl, alc_lst q d⟩
  · cases e2
theorem de_cb {id : String} {g : List Rs → Option RV} {x : Str} {p pos : Pos} {e : Expr} {es : List Expr} {ms : List (M AV)} (hc : CallD X (.builtin id) g) (hg : Gl X x) (hm : X.mg x = none) (hv : bootBuiltins x = some (.builtin id)) (ha : DA X W (e :: es) (oL ms))
    (hn : x ≠ "__name__" := by decide) (hdb : (x == ("__debug__" : Str)) = false := by decide)
    (he : starEach (e :: es) X.env = (false, eval e X.env) :: starEach es X.env := by rfl) (hpl : (backTo pos (starEach es X.env)).any (·.1) = false := by rfl) : DE X W (.Call (.Name x p) (e :: es) [] pos) (mOp g ms) :=
  pe_weak (pe_callB hc hg hm hv ha hn hdb he hpl) fun σ H Q ⟨B, r, O, h⟩ => tG.of (h.ops)
theorem de_ct {T : String} {g : List Rs → Option RV} {x : Str} {p pos : Pos} {e : Expr} {es : List Expr} {ms : List (M AV)} (hc : CallD X (.type T) g) (hg : Gl X x) (hm : X.mg x = none) (hv : bootBuiltins x = some (.type T)) (ha : DA X W (e :: es) (oL ms))
    (hn : x ≠ "__name__" := by decide) (hdb : (x == ("__debug__" : Str)) = false := by decide)
    (he : starEach (e :: es) X.env = (false, eval e X.env) :: starEach es X.env := by rfl) (hpl : (backTo pos (starEach es X.env)).any (·.1) = false := by rfl) : DE X W (.Call (.Name x p) (e :: es) [] pos) (mOp g ms) :=
  pe_weak (pe_callTy hc hg hm hv ha hn hdb he hpl) fun σ H Q ⟨B, r, O, h⟩ => tG.of (h.ops)
end
end DL
end

section
namespace DL
open PySem
/-- what a def does: its arguments (an owned one is lent); the answer, the arguments behind it -/
abbrev Sem := List Rs → Option (EO RV × List Rs)
def toSl : Rs → Sl
  | .fz d => .frz false d
  | .ow c => .own true c
def backSl (b : Bool) : Rs → Sl
  | .fz d => .frz b d
  | .ow c => .own b c
def exitSl : Rs → Rs → Sl
  | .fz d, _ => .frz false d
  | .ow _, y => backSl true y
def ownIx : List AV → List Rs → List Nat
  | .slot i :: as, .ow _ :: xs => i :: ownIx as xs
  | _ :: as, _ :: xs => ownIx as xs
  | _, _ => []
def put1 (r : Ro) (i : Nat) (y : Rs) : Ro := match r[i]? with
  | some (.own b _) => r.set i (backSl b y)
  | _ => r
def putBack : Ro → List AV → List Rs → List Rs → Ro
  | r, .slot i :: as, .ow _ :: xs, y :: ys => putBack (put1 r i y) as xs ys
  | r, _ :: as, _ :: xs, _ :: ys => putBack r as xs ys
  | r, _, _, _ => r
def mCall (f : Sem) (ms : List (M AV)) : M RV := (oL ms).bind fun as => fun r => match looks r as with
  | none => none
  | some xs => if (ownIx as xs).Nodup ∧ (ownIx as xs).all (noAl r) = true then match f xs with
      | some (o, ys) => if ys.length = xs.length then some (o, putBack r as xs ys) else none
      | none => none
    else none
/-- a statement's end -/
inductive SO where
  | nx
  | ret (v : RV)
  /-- what slot i holds, with all that it owns -/
  | rets (i : Nat)
  | brk
  | cnt
  | exc (x : Exn)
def S := Ro → Option (SO × Ro)
def sNx : S := fun r => some (.nx, r)
def sSeq (a b : S) : S := fun r => match a r with
  | some (.nx, r') => b r'
  | z => z
def sEx {α : Type} (m : M α) (k : α → S) : S := fun r => match m r with
  | none => none
  | some (.ok a, r') => k a r'
  | some (.exc x, r') => some (.exc x, r')
def sRet (m : M RV) : S := sEx m fun v r => some (.ret v, r)
def sIf (t : M Bool) (a b : S) : S := sEx t fun c => if c then a else b
def sDrop (m : M RV) : S := sEx m fun _ => sNx
/-- the slot i gets a result; a lent parameter's slot can't be stored to -/
def putSl (i : Nat) (v : RV) : S := fun r => match r[i]? with
  | none => none
  | some x => if pinnedB x then none else match v with
      | .val d => some (.nx, r.set i (.frz false d))
      | .new (.ll rows) => if noAl r i then some (.nx, r.set i (.own false (.ll rows))) else none
      | .new c => some (.nx, r.set i (.own false c))
where pinnedB : Sl → Bool
  | .frz b _ => b
  | .own b _ => b
  | .non => false
  | .al _ _ => false
def sSet (i : Nat) (m : M RV) : S := sEx m (putSl i)
def outs : List Rs → Nat → Ro → List Rs
  | [], _, _ => []
  | .fz d :: xs, k, r => .fz d :: outs xs (k + 1) r
  | .ow c :: xs, k, r => (match r[k]? with
      | some (.own _ c') => .ow c'
      | some (.frz _ d) => .fz d
      | _ => .ow c) :: outs xs (k + 1) r
def allFz : List Rs → Bool
  | [] => true
  | .fz _ :: xs => allFz xs
  | .ow _ :: _ => false
/-- an object handed on: only where no object was lent -/
def handOn (xs : List Rs) (i : Nat) (r : Ro) : Option (EO RV × List Rs) := match r[i]? with
  | some (.own false c) => if allFz xs = true then some (.ok (.new c), outs xs 0 (r.set i .non)) else none
  | _ => none
/-- a def of n parameters and N names by its body -/
def defSem (n N : Nat) (body : S) : Sem := fun xs => if xs.length = n then match body (xs.map toSl ++ List.replicate (N - n) .non) with
    | some (.ret v, r) => some (.ok v, outs xs 0 r)
    | some (.rets i, r) => handOn xs i r
    | some (.nx, r) => some (.ok (.val .none), outs xs 0 r)
    | some (.exc x, r) => some (.exc x, outs xs 0 r)
    | _ => none
  else none
end DL
end

section
namespace DL
open PySem PySem.Spec PyProof.Rows L2
theorem put1_ne {r : Ro} {i j : Nat} {y : Rs} (h : j ≠ i) : (put1 r i y)[j]? = r[j]? := by
  unfold put1
  split
  · exact List.getElem?_set_ne (Ne.symm h)
  · rfl
theorem put1_at {r : Ro} {i : Nat} {y : Rs} {b : Bool} {c : Ct} (h : r[i]? = some (Sl.own b c)) : (put1 r i y)[i]? = some (backSl b y) := by
  unfold put1
  rw [h]
  obtain ⟨hl, _⟩ := List.getElem?_eq_some_iff.mp h
  exact List.getElem?_set_self hl
theorem put1_len {r : Ro} {i : Nat} {y : Rs} : (put1 r i y).length = r.length := by
  unfold put1
  split <;> simp
theorem ownIx_mem : ∀ {as : List AV} {xs : List Rs} {k i : Nat} {c : Ct}, as[k]? = some (AV.slot i) → xs[k]? = some (Rs.ow c) → i ∈ ownIx as xs
  | [], _, _, _, _, h, _ => by simp at h
  | _ :: _, [], _, _, _, _, h => by simp at h
  | a :: as, x :: xs, 0, i, c, h, g => by
    simp at h g
    subst h g
    simp [ownIx]
  | a :: as, x :: xs, k + 1, i, c, h, g => by
    have := ownIx_mem (as := as) (xs := xs) (k := k) (i := i) (c := c) (by simpa using h) (by simpa using g)
    cases a <;> cases x <;> simp [ownIx, this]
theorem ownIx_of : ∀ {as : List AV} {xs : List Rs} {i : Nat}, i ∈ ownIx as xs → ∃ (k : Nat) (c : Ct), as[k]? = some (AV.slot i) ∧ xs[k]? = some (Rs.ow c)
  | [], _, _, h => by simp [ownIx] at h
  | a :: as, [], _, h => by cases a <;> simp [ownIx] at h
  | a :: as, x :: xs, i, h => by
    have rc : i ∈ ownIx as xs → ∃ (k : Nat) (c : Ct), (a :: as)[k]? = some (AV.slot i) ∧ (x :: xs)[k]? = some (Rs.ow c) := fun h => by
      obtain ⟨k, c, h1, h2⟩ := ownIx_of h
      exact ⟨k + 1, c, by simpa using h1, by simpa using h2⟩
    cases a with
    | val d => exact rc (by cases x <;> simpa [ownIx] using h)
    | slot j =>
      cases x with
      | fz d => exact rc (by simpa [ownIx] using h)
      | ow c =>
        simp only [ownIx, List.mem_cons] at h
        rcases h with rfl | h
        · exact ⟨0, c, rfl, rfl⟩
        · exact rc h
theorem putBack_len : ∀ {as : List AV} {xs ys : List Rs} {r : Ro}, (putBack r as xs ys).length = r.length
  | [], _, _, r => by simp [putBack]
  | a :: as, [], _, r => by cases a <;> simp [putBack]
  | a :: as, x :: xs, [], r => by cases a <;> cases x <;> simp [putBack]
  | a :: as, x :: xs, y :: ys, r => by
    cases a <;> cases x <;> simp only [putBack] <;> rw [putBack_len] <;> exact put1_len
theorem putBack_out : ∀ {as : List AV} {xs ys : List Rs} {r : Ro} {j : Nat}, j ∉ ownIx as xs → (putBack r as xs ys)[j]? = r[j]?
  | [], _, _, r, j, _ => by simp [putBack]
  | a :: as, [], _, r, j, _ => by cases a <;> simp [putBack]
  | a :: as, x :: xs, [], r, j, _ => by cases a <;> cases x <;> simp [putBack]
  | a :: as, x :: xs, y :: ys, r, j, h => by
    cases a with
    | val d => cases x <;> exact putBack_out (as := as) (xs := xs) (ys := ys) (by simpa [ownIx] using h)
    | slot i =>
      cases x with
      | fz d => exact putBack_out (as := as) (xs := xs) (ys := ys) (by simpa [ownIx] using h)
      | ow c =>
        simp only [ownIx, List.mem_cons, not_or] at h
        show (putBack (put1 r i y) as xs ys)[j]? = _
        rw [putBack_out (as := as) (xs := xs) (ys := ys) h.2, put1_ne h.1]
theorem putBack_in : ∀ {as : List AV} {xs ys : List Rs} {r : Ro} {k i : Nat} {c c0 : Ct} {y : Rs} {b : Bool}, (ownIx as xs).Nodup → as[k]? = some (AV.slot i) → xs[k]? = some (Rs.ow c) → ys[k]? = some y → r[i]? = some (Sl.own b c0) →
    (putBack r as xs ys)[i]? = some (backSl b y)
  | [], _, _, _, _, _, _, _, _, _, _, h, _, _, _ => by simp at h
  | _ :: _, [], _, _, _, _, _, _, _, _, _, _, h, _, _ => by simp at h
  | _ :: _, _ :: _, [], _, _, _, _, _, _, _, _, _, _, h, _ => by simp at h
  | a :: as, x :: xs, z :: ys, r, 0, i, c, c0, y, b, nd, h1, h2, h3, h4 => by
    simp at h1 h2 h3
    subst h1 h2 h3
    simp only [ownIx, List.nodup_cons] at nd
    show (putBack (put1 r i z) as xs ys)[i]? = _
    rw [putBack_out nd.1]
    exact put1_at h4
  | a :: as, x :: xs, z :: ys, r, k + 1, i, c, c0, y, b, nd, h1, h2, h3, h4 => by
    have h1' : as[k]? = some (AV.slot i) := by simpa using h1
    have h2' : xs[k]? = some (Rs.ow c) := by simpa using h2
    have h3' : ys[k]? = some y := by simpa using h3
    cases a with
    | val d => cases x <;> exact putBack_in (as := as) (xs := xs) (ys := ys) (by simpa [ownIx] using nd) h1' h2' h3' h4
    | slot j =>
      cases x with
      | fz d => exact putBack_in (as := as) (xs := xs) (ys := ys) (by simpa [ownIx] using nd) h1' h2' h3' h4
      | ow c2 =>
        simp only [ownIx, List.nodup_cons] at nd
        have hne : i ≠ j := fun e => nd.1 (e ▸ ownIx_mem h1' h2')
        exact putBack_in (r := put1 r j z) (as := as) (xs := xs) (ys := ys) nd.2 h1' h2' h3' (by rw [put1_ne hne]; exact h4)
theorem looks_get {r : Ro} : ∀ {as : List AV} {xs : List Rs} {k : Nat} {x : Rs}, looks r as = some xs → xs[k]? = some x → ∃ a, as[k]? = some a ∧ look r a = some x
  | [], xs, k, x, h, e => by cases h; simp at e
  | a :: as, xs, k, x, h, e => by
    simp only [looks] at h
    split at h
    · rename_i y ys h1 h2
      cases h
      cases k with
      | zero => simp at e; subst e; exact ⟨a, rfl, h1⟩
      | succ k =>
        obtain ⟨b, g1, g2⟩ := looks_get (k := k) h2 (by simpa using e)
        exact ⟨b, by simpa using g1, g2⟩
    · cases h
theorem look_ow {r : Ro} {a : AV} {c : Ct} (h : look r a = some (.ow c)) : ∃ i b, a = .slot i ∧ r[i]? = some (Sl.own b c) := by
  cases a with
  | val d => cases h
  | slot i =>
    simp only [look] at h
    split at h
    · cases h
    · rename_i b c' q; cases h; exact ⟨i, b, rfl, q⟩
    · cases h
theorem paired_get {α β : Type} {F : α → β → Prop} : ∀ {l : List α} {m : List β} {k : Nat} {x : α}, Paired F l m → l[k]? = some x → ∃ y, m[k]? = some y ∧ F x y
  | _, _, _, _, .nil, e => by simp at e
  | _, _, 0, x, .cons h t, e => by simp at e; subst e; exact ⟨_, rfl, h⟩
  | _, _, k + 1, x, .cons h t, e => by
    obtain ⟨y, h1, h2⟩ := paired_get (k := k) t (by simpa using e)
    exact ⟨y, by simpa using h1, h2⟩
section
variable {K : PySem.W.Frag} {B H B' H' : Hp} {σ : L2.St} {r : Ro} {O Oc' : Addr → Prop} {as : List AV} {xs ys : List Rs} {vs : List V}
/-- what is lent -/
def lent (K : PySem.W.Frag) (B H : Hp) (O : Addr → Prop) (xs : List Rs) (vs : List V) : Addr → Prop := fun a => O a ∧ ∃ (k : Nat) (c : Ct) (l : Addr) (F : List Addr), xs[k]? = some (Rs.ow c) ∧ vs[k]? = some (V.ref l) ∧ OwnR K B H c l F ∧ a ∈ F
/-- the slots at a callee's entry -/
theorem call_in (c : Con K B H σ r O) (lk : looks r as = some xs) (pv : Paired (AvR K B σ) as vs) (nd : (ownIx as xs).Nodup) : Con K B H (vs.map some) (xs.map toSl) (lent K B H O xs vs) := by
  have px := c.looks lk pv
  have own : ∀ (k : Nat) b ct, (xs.map toSl)[k]? = some (Sl.own b ct) → ∃ i b0 l F, as[k]? = some (AV.slot i) ∧ xs[k]? = some (Rs.ow ct) ∧ r[i]? = some (Sl.own b0 ct) ∧ σ[i]? = some (some (V.ref l)) ∧ vs[k]? = some (V.ref l) ∧ OwnR K B H ct l F ∧ ∀ a ∈ F, O a := by
    intro k b ct e
    rw [List.getElem?_map] at e
    cases q : xs[k]? with
    | none => rw [q] at e; cases e
    | some x =>
      rw [q] at e
      cases x with
      | fz d => cases e
      | ow c2 =>
        cases e
        obtain ⟨a, h1, h2⟩ := looks_get lk q
        obtain ⟨i, b0, rfl, h3⟩ := look_ow h2
        obtain ⟨l, F, g1, g2, g3⟩ := c.own i b0 _ h3
        obtain ⟨v, e1, e2⟩ := paired_get pv h1
        rw [show σ[i]? = some (some v) from e2] at g1; cases g1
        exact ⟨i, b0, l, F, h1, rfl, h3, e2, e1, g2, g3⟩
  refine ⟨⟨c.sub, fun a h => c.off a h.1, fun a h => c.liv a h.1, by rw [List.length_map, List.length_map, px.length], fun k b d e => ?_, fun k b ct e => ?_, fun k j b c1 b' c2 l l' F F' ne e1 e2 s1 s2 o1 o2 => ?_⟩, fun i j k h => ?_⟩
  · rw [List.getElem?_map] at e
    cases q : xs[k]? with
    | none => rw [q] at e; cases e
    | some x =>
      rw [q] at e
      cases x with
      | ow c2 => cases e
      | fz d2 =>
        cases e
        obtain ⟨v, e1, e2⟩ := paired_get px q
        exact ⟨v, by rw [List.getElem?_map, e1]; rfl, e2⟩
  · obtain ⟨i, b0, l, F, h1, h2, h3, h4, h5, h6, h7⟩ := own k b ct e
    exact ⟨l, F, by rw [List.getElem?_map, h5]; rfl, h6, fun a ha => ⟨h7 a ha, k, ct, l, F, h2, h5, h6, ha⟩⟩
  · obtain ⟨i, b0, m, G, h1, h2, h3, h4, h5, h6, h7⟩ := own k b c1 e1
    obtain ⟨i', b0', m', G', h1', h2', h3', h4', h5', h6', h7'⟩ := own j b' c2 e2
    rw [List.getElem?_map, h5] at s1; cases s1
    rw [List.getElem?_map, h5'] at s2; cases s2
    refine c.sep i i' b0 c1 b0' c2 _ _ F F' (fun e => ?_) h3 h3' h4 h4' o1 o2
    subst e
    -- one slot at two places
    exact absurd nd (ownIx_two ne h1 h1' h2 h2')
  · rw [List.getElem?_map] at h
    cases q : xs[i]? with
    | none => rw [q] at h; cases h
    | some x => rw [q] at h; cases x <;> cases h
where
  ownIx_two : ∀ {as : List AV} {xs : List Rs} {k j i : Nat} {c c' : Ct}, k ≠ j → as[k]? = some (AV.slot i) → as[j]? = some (AV.slot i) → xs[k]? = some (Rs.ow c) → xs[j]? = some (Rs.ow c') → ¬ (ownIx as xs).Nodup
    | [], _, _, _, _, _, _, _, h, _, _, _ => by simp at h
    | _ :: _, [], _, _, _, _, _, _, _, _, h, _ => by simp at h
    | a :: as, x :: xs, 0, 0, _, _, _, n, _, _, _, _ => absurd rfl n
    | a :: as, x :: xs, 0, j + 1, i, c, c', _, h1, h2, h3, h4 => by
      simp at h1 h3
      subst h1 h3
      have := ownIx_mem (as := as) (xs := xs) (k := j) (i := i) (c := c') (by simpa using h2) (by simpa using h4)
      simp [ownIx, this]
    | a :: as, x :: xs, k + 1, 0, i, c, c', _, h1, h2, h3, h4 => by
      simp at h2 h4
      subst h2 h4
      have := ownIx_mem (as := as) (xs := xs) (k := k) (i := i) (c := c) (by simpa using h1) (by simpa using h3)
      simp [ownIx, this]
    | a :: as, x :: xs, k + 1, j + 1, i, c, c', n, h1, h2, h3, h4 => by
      have := ownIx_two (as := as) (xs := xs) (k := k) (j := j) (i := i) (c := c) (c' := c') (fun e => n (by rw [e])) (by simpa using h1) (by simpa using h2) (by simpa using h3) (by simpa using h4)
      cases a <;> cases x <;> simp_all [ownIx]
/-- the slots behind a call -/
theorem call_out (c : Con K B H σ r O) (lk : looks r as = some xs) (pv : Paired (AvR K B σ) as vs) (nd : (ownIx as xs).Nodup) (na : (ownIx as xs).all (noAl r) = true) (hl : ys.length = xs.length) (s : Step B H (lent K B H O xs vs) B' H' Oc')
    (c' : Con K B' H' (vs.map some) (List.zipWith exitSl xs ys) Oc') :
    ∃ O', Step B H O B' H' O' ∧ Con K B' H' σ (putBack r as xs ys) O' ∧ Bor r σ (putBack r as xs ys) σ ∧ ∀ a, O' a → O a ∨ Oc' a := by
  have px := c.looks lk pv
  -- a slot that was lent
  have back : ∀ (i : Nat), i ∈ ownIx as xs → ∃ (k : Nat) (ct : Ct) (b : Bool) (y : Rs) (l : Addr), as[k]? = some (AV.slot i) ∧ xs[k]? = some (Rs.ow ct) ∧ r[i]? = some (Sl.own b ct) ∧ ys[k]? = some y ∧ vs[k]? = some (V.ref l) ∧ σ[i]? = some (some (V.ref l)) ∧ (putBack r as xs ys)[i]? = some (backSl b y) ∧ (List.zipWith exitSl xs ys)[k]? = some (backSl true y) := by
    intro i hi
    obtain ⟨k, ct, h1, h2⟩ := ownIx_of hi
    obtain ⟨a, g1, g2⟩ := looks_get lk h2
    rw [h1] at g1; cases g1
    obtain ⟨i', b, e, h3⟩ := look_ow g2
    cases e
    obtain ⟨l, F, q1, q2, q3⟩ := c.own i b ct h3
    obtain ⟨v, e1, e2⟩ := paired_get pv h1
    rw [show σ[i]? = some (some v) from e2] at q1; cases q1
    have hk : k < ys.length := by rw [hl]; exact (List.getElem?_eq_some_iff.mp h2).1
    refine ⟨k, ct, b, ys[k], l, h1, h2, h3, List.getElem?_eq_getElem hk, e1, e2, putBack_in nd h1 h2 (List.getElem?_eq_getElem hk) h3, ?_⟩
    rw [List.getElem?_zipWith, h2, List.getElem?_eq_getElem hk]
    rfl
  -- what was owned and not lent
  have kept : ∀ (i : Nat) b ct l F, i ∉ ownIx as xs → r[i]? = some (Sl.own b ct) → σ[i]? = some (some (V.ref l)) → OwnR K B H ct l F → ∀ a ∈ F, O a ∧ ¬ lent K B H O xs vs a ∧ H' a = H a ∧ B' a = none := by
    intro i b ct l F hi e hs o a ha
    obtain ⟨l0, F0, q1, q2, q3⟩ := c.own i b ct e
    rw [hs] at q1; cases q1
    rw [ownR_uniq o q2 fun _ _ => rfl] at q3
    have nl : ¬ lent K B H O xs vs a := fun ⟨_, k, c2, l2, F2, x1, x2, x3, x4⟩ => by
      obtain ⟨a2, g1, g2⟩ := looks_get lk x1
      obtain ⟨j, b2, e2, h3⟩ := look_ow g2
      subst e2
      obtain ⟨v, e1, e2⟩ := paired_get pv g1
      rw [x2] at e1; cases e1
      exact c.sep i j b ct b2 c2 l l2 F F2 (fun z => hi (z ▸ ownIx_mem g1 x1)) e h3 hs e2 o x3 a ha x4
    have oa := q3 a ha
    have ha0 := c.liv a oa
    refine ⟨oa, nl, ?_, s.nB a ha0 nl (c.off a oa)⟩
    cases q : H a with
    | none => exact absurd q ha0
    | some x => exact s.keep a x q nl
  have sB := s.sB
  refine ⟨fun a => (O a ∨ Oc' a) ∧ B' a = none ∧ H' a ≠ none, ⟨sB, fun a o h n => s.keep a o h fun z => n z.1, s.live, fun a h n b => s.nB a h (fun z => n z.1) b, fun a h => ?_⟩, ⟨⟨c'.sub, fun a h => h.2.1, fun a h => h.2.2, by rw [putBack_len, c.len], fun i b d e => ?_, fun i b ct e => ?_, fun i j b c1 b' c2 l l' F F' ne e1 e2 s1 s2 o1 o2 => ?_⟩, fun i j k h b rows l as2 h1 h2 h3 => ?_⟩, fun i x e p => ⟨?_, rfl⟩, fun a h => h.1⟩
  · rcases h.1 with h | h
    · exact .inl h
    · exact (s.nO a h).elim (fun z => .inl z.1) .inr
  · by_cases hi : i ∈ ownIx as xs
    · obtain ⟨k, ct, b0, y, l, h1, h2, h3, h4, h5, h6, h7, h8⟩ := back i hi
      rw [h7] at e
      cases y with
      | ow _ => cases e
      | fz d2 =>
        cases e
        obtain ⟨v, g1, g2⟩ := c'.frz k true d h8
        rw [List.getElem?_map, h5] at g1; cases g1
        exact ⟨_, h6, g2⟩
    · rw [putBack_out hi] at e
      obtain ⟨v, g1, g2⟩ := c.frz i b d e
      exact ⟨v, g1, dp_same sB g2⟩
  · by_cases hi : i ∈ ownIx as xs
    · obtain ⟨k, ct0, b0, y, l, h1, h2, h3, h4, h5, h6, h7, h8⟩ := back i hi
      rw [h7] at e
      cases y with
      | fz _ => cases e
      | ow c2 =>
        cases e
        obtain ⟨l2, F, g1, g2, g3⟩ := c'.own k true _ h8
        rw [List.getElem?_map, h5] at g1; cases g1
        exact ⟨_, F, h6, g2, fun a ha => ⟨.inr (g3 a ha), c'.off a (g3 a ha), c'.liv a (g3 a ha)⟩⟩
    · rw [putBack_out hi] at e
      obtain ⟨l, F, g1, g2, g3⟩ := c.own i b ct e
      have kp := kept i b ct l F hi e g1 g2
      exact ⟨l, F, g1, ownR_same g2 sB fun a ha => (kp a ha).2.2.1, fun a ha => ⟨.inl (kp a ha).1, (kp a ha).2.2.2, by rw [(kp a ha).2.2.1]; exact c.liv a (kp a ha).1⟩⟩
  · -- apart
    have mixed : ∀ (i j : Nat) b c1 b' c2 l l' F F', i ∈ ownIx as xs → j ∉ ownIx as xs → (putBack r as xs ys)[i]? = some (Sl.own b c1) → (putBack r as xs ys)[j]? = some (Sl.own b' c2) → σ[i]? = some (some (V.ref l)) → σ[j]? = some (some (V.ref l')) →
        OwnR K B' H' c1 l F → OwnR K B' H' c2 l' F' → ∀ a ∈ F, a ∉ F' := by
      intro i j b c1 b' c2 l l' F F' hi hj e1 e2 s1 s2 o1 o2 a ha hb
      obtain ⟨k, ct0, b0, y, l0, h1, h2, h3, h4, h5, h6, h7, h8⟩ := back i hi
      rw [h7] at e1
      cases y with
      | fz _ => cases e1
      | ow c3 =>
        cases e1
        obtain ⟨l2, F2, g1, g2, g3⟩ := c'.own k true _ h8
        rw [List.getElem?_map, h5] at g1; cases g1
        rw [h6] at s1; cases s1
        rw [ownR_uniq o1 g2 fun _ _ => rfl] at g3
        rw [putBack_out hj] at e2
        obtain ⟨l3, F3, q1, q2, q3⟩ := c.own j b' c2 e2
        rw [s2] at q1; cases q1
        have kp := kept j b' c2 _ F3 hj e2 s2 q2
        rw [ownR_uniq q2 o2 fun a ha => (kp a ha).2.2.1] at hb
        rcases s.nO a (g3 a ha) with z | z
        · exact (kp a hb).2.1 z
        · exact c.liv a (kp a hb).1 z
    by_cases hi : i ∈ ownIx as xs
    · by_cases hj : j ∈ ownIx as xs
      · obtain ⟨k, ct0, b0, y, l0, h1, h2, h3, h4, h5, h6, h7, h8⟩ := back i hi
        obtain ⟨k', ct0', b0', y', l0', h1', h2', h3', h4', h5', h6', h7', h8'⟩ := back j hj
        rw [h7] at e1
        rw [h7'] at e2
        rw [h6] at s1; cases s1
        rw [h6'] at s2; cases s2
        cases y with
        | fz _ => cases e1
        | ow c3 =>
          cases y' with
          | fz _ => cases e2
          | ow c3' =>
            cases e1
            cases e2
            refine c'.sep k k' true _ true _ _ _ F F' (fun z => ?_) h8 h8' (by rw [List.getElem?_map, h5]; rfl) (by rw [List.getElem?_map, h5']; rfl) o1 o2
            subst z
            rw [h1] at h1'; cases h1'
            exact ne rfl
      · exact mixed i j b c1 b' c2 l l' F F' hi hj e1 e2 s1 s2 o1 o2
    · by_cases hj : j ∈ ownIx as xs
      · exact fun a ha hb => mixed j i b' c2 b c1 l' l F' F hj hi e2 e1 s2 s1 o2 o1 a hb ha
      · rw [putBack_out hi] at e1
        rw [putBack_out hj] at e2
        obtain ⟨l3, F3, q1, q2, q3⟩ := c.own i b c1 e1
        rw [s1] at q1; cases q1
        obtain ⟨l4, F4, q1', q2', q3'⟩ := c.own j b' c2 e2
        rw [s2] at q1'; cases q1'
        have kp := kept i b c1 _ F3 hi e1 s1 q2
        have kp' := kept j b' c2 _ F4 hj e2 s2 q2'
        rw [ownR_uniq q2 o1 fun a ha => (kp a ha).2.2.1, ownR_uniq q2' o2 fun a ha => (kp' a ha).2.2.1]
        exact c.sep i j b c1 b' c2 _ _ _ _ ne e1 e2 s1 s2 q2 q2'
  · -- a slot that looks into another one
    have hi : i ∉ ownIx as xs := fun hi => by
      obtain ⟨k', ct, b0, y, l0, g1, g2, g3, g4, g5, g6, g7, g8⟩ := back i hi
      rw [g7] at h
      cases y <;> cases h
    rw [putBack_out hi] at h
    have hj : j ∉ ownIx as xs := fun hj => absurd h (noAl_of (List.all_eq_true.mp na j hj))
    rw [putBack_out hj] at h1
    obtain ⟨l0, F, g1, g2, g3⟩ := c.own j b _ h1
    rw [h2] at g1; cases g1
    rw [(kept j b _ _ F hj h1 h2 g2 _ (ownR_mem g2)).2.2.1] at h3
    exact c.al i j k h b rows _ as2 h1 h2 h3
  · -- a lent parameter of ours
    by_cases hi : i ∈ ownIx as xs
    · obtain ⟨k, ct0, b0, y, l0, h1, h2, h3, h4, h5, h6, h7, h8⟩ := back i hi
      rw [h3] at e; cases e
      have p : b0 = true := p
      subst p
      exact ⟨_, h7, by cases y <;> rfl⟩
    · exact ⟨x, by rw [putBack_out hi]; exact e, p⟩
end
/-- what a def promises, by its meaning -/
def spD (K : PySem.W.Frag) (mg : Str → Option Value) (f : Sem) (n : Nat) : Sp := fun vs H Q E => vs.length = n ∧ ∃ B O xs, Con K B H (vs.map some) (xs.map toSl) O ∧ ∃ o ys, f xs = some (o, ys) ∧ ys.length = xs.length ∧ match o with
  | .ok rv => ∀ B' H' O' v, Step B H O B' H' O' → Con K B' H' (vs.map some) (List.zipWith exitSl xs ys) O' → RvR K H B' H' O' rv v → Q v H'
  | .exc x => ∀ B' H' O' c dx, Step B H O B' H' O' → Con K B' H' (vs.map some) (List.zipWith exitSl xs ys) O' → XnR K mg x c dx H' → E c dx H'
section
variable {X : Cx} {W : WX}
theorem de_call {k : Nat} {f : Addr} {fd : FuncData} {ps : List Str} {sem : Sem} {x : Str} {p pos : Pos} {e : Expr} {es : List Expr} {ms : List (M AV)} (tk : L2N.Takes X W)
    (F : FnOk X.prog X.w X.K X.mg X.base (L2N.CX X.prog X.w) k f fd ps (spD X.K X.mg sem ps.length)) (hr : Room k X.A) (hg : Gl X x) (hm : X.mg x = some (.ref f)) (hk : PySem.W.keepIn X.K (.ref f) = true) (hb : Binds X.K fd ps [])
    (hn : ms.length = ps.length) (ha : DA X W (e :: es) (oL ms)) (hdb : (x == ("__debug__" : Str)) = false := by decide) (he : starEach (e :: es) X.env = (false, eval e X.env) :: starEach es X.env := by rfl) (hpl : (backTo pos (starEach es X.env)).any (·.1) = false := by rfl) :
    DE X W (.Call (.Name x p) (e :: es) [] pos) (mCall sem ms) := pe_weak (pe_callS F hr hg hm hk hb (fun σ => L2N.passAt tk σ) ha hdb he hpl) fun σ H Q ⟨B, r, O, h⟩ => by
  have olen : ∀ (ms : List (M AV)) (r : Ro) as r', oL ms r = some (.ok as, r') → as.length = ms.length := by
    intro ms
    induction ms with
    | nil => intro r as r' e; cases e; rfl
    | cons m ms ih =>
      intro r as r' e
      unfold oL M.bind at e
      split at e
      · cases e
      · rename_i a r1 q
        simp only [M.bind] at e
        split at e
        · cases e
        · rename_i as2 r2 q2
          cases e
          rw [List.length_cons, ih _ _ _ q2, List.length_cons]
        · cases e
      · cases e
  obtain ⟨c0, o0, r0, e0, p0⟩ := h
  have hlen : ∀ as r1, oL ms r = some (.ok as, r1) → as.length = ps.length := fun as r1 q => (olen ms r as r1 q).trans hn
  have h : At (Cx.g X) W (mCall sem ms) (rV (Cx.g X)) B r O σ H Q := ⟨c0, o0, r0, e0, p0⟩
  refine ⟨B, r, O, c0, ?_⟩
  unfold mCall M.bind at e0
  cases q : oL ms r with
  | none => rw [q] at e0; cases e0
  | some z =>
    obtain ⟨o1, r1⟩ := z
    rw [q] at e0
    refine ⟨o1, r1, rfl, ?_⟩
    cases o1 with
    | exc x => cases e0; exact p0
    | ok as =>
      intro B1 H1 O1 vs s1 c1 b1 x1
      simp only at e0
      cases q2 : looks r1 as with
      | none => rw [q2] at e0; cases e0
      | some xs =>
        rw [q2] at e0
        simp only at e0
        split at e0
        · rename_i nd
          cases q3 : sem xs with
          | none => rw [q3] at e0; cases e0
          | some z3 =>
            obtain ⟨o3, ys⟩ := z3
            rw [q3] at e0
            simp only at e0
            split at e0
            · rename_i hl
              cases e0
              have x1 : Paired (AvR X.K B1 σ) as vs := x1
              refine ⟨by rw [← x1.length]; exact hlen as r1 q, B1, lent X.K B1 H1 O1 xs vs, xs, call_in c1 q2 x1 nd.1, o0, ys, q3, hl, ?_⟩
              cases o0 with
              | ok rv =>
                intro B' H' O' v s2 c2 x2
                obtain ⟨O2, s3, c3, b3, ho⟩ := call_out c1 q2 x1 nd.1 nd.2 hl s2 c2
                refine p0 B' H' O2 v (s1.trans s3) c3 (b1.trans b3) (later_rV H H1 B' H' O2 σ rv v s1.live ?_)
                cases rv with
                | val d => exact x2
                | new ct =>
                  obtain ⟨l, F, e1, o, hF⟩ := x2
                  refine ⟨l, F, e1, o, fun a ha => ⟨(hF a ha).1, (hF a ha).2.1, fun z => ?_⟩⟩
                  rcases ho a z with z | z
                  · exact c1.liv a z (hF a ha).1
                  · exact (hF a ha).2.2 z
              | exc x =>
                intro B' H' O' c dx s2 c2 x2
                obtain ⟨O2, s3, c3, b3, ho⟩ := call_out c1 q2 x1 nd.1 nd.2 hl s2 c2
                exact p0 B' H' O2 c dx (s1.trans s3) c3 (b1.trans b3) x2
            · cases e0
        · cases e0
end
end DL
end

section
namespace DL
open PySem PySem.Spec PyProof.Rows L2
/-- what a statement's end has to bring -/
def PostS (G : Ct2) (W : WX) (B : Hp) (r : Ro) (O : Addr → Prop) (σ : L2.St) (H : Hp) (D : Ends) (r' : Ro) : SO → Prop
  | .nx => ∀ B' H' O' σ', Step B H O B' H' O' → Con G.K B' H' σ' r' O' → Bor r σ r' σ' → D.nx σ' H'
  | .brk => ∀ B' H' O' σ', Step B H O B' H' O' → Con G.K B' H' σ' r' O' → Bor r σ r' σ' → D.bk σ' H'
  | .cnt => ∀ B' H' O' σ', Step B H O B' H' O' → Con G.K B' H' σ' r' O' → Bor r σ r' σ' → D.ct σ' H'
  | .ret v => ∀ B' H' O' σ' x, Step B H O B' H' O' → Con G.K B' H' σ' r' O' → Bor r σ r' σ' → RvR G.K H B' H' O' v x → D.rt x H'
  | .rets i => ∀ B' H' O' σ' x, Step B H O B' H' O' → Con G.K B' H' σ' r' O' → Bor r σ r' σ' → σ'[i]? = some (some x) → D.rt x H'
  | .exc x => ∀ B' H' O' σ' c dx, Step B H O B' H' O' → Con G.K B' H' σ' r' O' → Bor r σ r' σ' → XnR G.K G.mg x c dx H' → W c dx σ' H'
/-- a statement's meaning from a state, with its ends -/
def AtS (G : Ct2) (W : WX) (m : S) (B : Hp) (r : Ro) (O : Addr → Prop) (σ : L2.St) (H : Hp) (D : Ends) : Prop :=
  Con G.K B H σ r O ∧ ∃ o r', m r = some (o, r') ∧ PostS G W B r O σ H D r' o
def tS (G : Ct2) (W : WX) (m : S) : TS := fun D σ H => ∃ B r O, AtS G W m B r O σ H D
def DS (X : Cx) (W : WX) (st : Stmt) (m : S) : Prop := PS X st (tS (Cx.g X) W m)
def DSs (X : Cx) (W : WX) (st : List Stmt) (m : S) : Prop := PSs X st (tS (Cx.g X) W m)
theorem pss_weak {X : Cx} {e : List Stmt} {t t' : TS} (h : PSs X e t) (w : ∀ D σ H, t' D σ H → t D σ H) : PSs X e t' := ⟨fun pins s σ H D I q => h.run pins s σ H D I (w D σ H q)⟩
section
variable {X : Cx} {W : WX} {G : Ct2}
theorem tS.of {m : S} {B : Hp} {r : Ro} {O : Addr → Prop} {σ : L2.St} {H : Hp} {D : Ends} (h : AtS G W m B r O σ H D) : tS G W m D σ H := ⟨B, r, O, h⟩
/-- ahead of a statement something else went -/
theorem AtS.after {m : S} {B B1 : Hp} {r r1 : Ro} {O O1 : Addr → Prop} {σ σ1 : L2.St} {H H1 : Hp} {D : Ends} {o : SO} {r' : Ro} (s1 : Step B H O B1 H1 O1) (c1 : Con G.K B1 H1 σ1 r1 O1) (b1 : Bor r σ r1 σ1) (e : m r1 = some (o, r'))
    (p : PostS G W B r O σ H D r' o) : AtS G W m B1 r1 O1 σ1 H1 D := by
  refine ⟨c1, o, r', e, ?_⟩
  cases o with
  | nx => exact fun B' H' O' σ' s c b => p B' H' O' σ' (s1.trans s) c (b1.trans b)
  | brk => exact fun B' H' O' σ' s c b => p B' H' O' σ' (s1.trans s) c (b1.trans b)
  | cnt => exact fun B' H' O' σ' s c b => p B' H' O' σ' (s1.trans s) c (b1.trans b)
  | ret v => exact fun B' H' O' σ' x s c b y => p B' H' O' σ' x (s1.trans s) c (b1.trans b) (later_rV (G := G) H H1 B' H' O' σ' v x s1.live y)
  | rets i => exact fun B' H' O' σ' x s c b y => p B' H' O' σ' x (s1.trans s) c (b1.trans b) y
  | exc x => exact fun B' H' O' σ' k dx s c b y => p B' H' O' σ' k dx (s1.trans s) c (b1.trans b) y
theorem AtS.seq {a b : S} {B : Hp} {r : Ro} {O : Addr → Prop} {σ : L2.St} {H : Hp} {D : Ends} (h : AtS G W (sSeq a b) B r O σ H D) : AtS G W a B r O σ H { D with nx := tS G W b D } := by
  obtain ⟨c, o, r', e, p⟩ := h
  refine ⟨c, ?_⟩
  unfold sSeq at e
  cases q : a r with
  | none => rw [q] at e; cases e
  | some z =>
    obtain ⟨o1, r1⟩ := z
    rw [q] at e
    refine ⟨o1, r1, rfl, ?_⟩
    cases o1 with
    | nx => exact fun B1 H1 O1 σ1 s1 c1 b1 => tS.of (AtS.after s1 c1 b1 e p)
    | brk => cases e; exact p
    | cnt => cases e; exact p
    | ret v => cases e; exact p
    | rets i => cases e; exact p
    | exc x => cases e; exact p
/-- an expression ahead -/
theorem AtS.ex {α β : Type} {m : M α} {k : α → S} {R : Rl α β} {B : Hp} {r : Ro} {O : Addr → Prop} {σ : L2.St} {H : Hp} {D : Ends} (h : AtS G W (sEx m k) B r O σ H D) :
    At G W m R B r O σ H fun y H1 => ∃ a B1 r1 O1, Step B H O B1 H1 O1 ∧ Bor r σ r1 σ ∧ R H B1 H1 O1 σ a y ∧ Con G.K B1 H1 σ r1 O1 ∧ ∃ o r', k a r1 = some (o, r') ∧ PostS G W B r O σ H D r' o := by
  obtain ⟨c, o, r', e, p⟩ := h
  refine ⟨c, ?_⟩
  unfold sEx at e
  cases q : m r with
  | none => rw [q] at e; cases e
  | some z =>
    obtain ⟨o1, r1⟩ := z
    rw [q] at e
    refine ⟨o1, r1, rfl, ?_⟩
    cases o1 with
    | ok a => exact fun B1 H1 O1 y s1 c1 b1 x1 => ⟨a, B1, r1, O1, s1, b1, x1, c1, o, r', e, p⟩
    | exc x =>
      cases e
      exact fun B1 H1 O1 k dx s1 c1 b1 x1 => p B1 H1 O1 σ k dx s1 c1 b1 x1
theorem dss_nil : DSs X W [] sNx := pss_weak pss_nil fun D σ H ⟨B, r, O, c, o, r', e, p⟩ => by
  cases e
  exact p B H O σ .refl c .refl
theorem dss_cons {st : Stmt} {sts : List Stmt} {a b : S} (h : DS X W st a) (t : DSs X W sts b) : DSs X W (st :: sts) (sSeq a b) := pss_weak (pss_cons h t) fun D σ H ⟨B, r, O, h⟩ => tS.of h.seq
theorem dss_one {st : Stmt} {a : S} (h : DS X W st a) : DSs X W [st] a := pss_one h
theorem ds_ret {e : Expr} {pos : Pos} {m : M RV} (h : DE X W e m) : DS X W (.Return (some e) pos) (sRet m) := ps_weak (ps_ret h) fun D σ H ⟨B, r, O, h⟩ => by
  refine tG.of (h.ex.mono ?_)
  rintro y H1 ⟨v, B1, r1, O1, s1, b1, x1, c1, o, r', e, p⟩
  cases e
  exact p B1 H1 O1 σ y s1 c1 b1 x1
theorem ds_if {c : Expr} {a b : List Stmt} {pos : Pos} {t : M Bool} {m n : S} (hc : DB X W c t) (ha : DSs X W a m) (hb : DSs X W b n) : DS X W (.If c a b pos) (sIf t m n) := ps_weak (ps_if hc ha hb) fun D σ H ⟨B, r, O, h⟩ => by
  refine tG.of (h.ex.mono ?_)
  rintro y H1 ⟨v, B1, r1, O1, s1, b1, x1, c1, o, r', e, p⟩
  cases x1
  cases y with
  | true => exact iteT (tS.of (AtS.after s1 c1 b1 e p))
  | false => exact iteF (tS.of (AtS.after s1 c1 b1 e p))
theorem ds_expr {e : Expr} {pos : Pos} {m : M RV} (h : DE X W e m) (hs : swapsWith e none pos.line X.env = pure false := by rfl) : DS X W (.Expr e pos) (sDrop m) := ps_weak (ps_expr h hs) fun D σ H ⟨B, r, O, h⟩ => by
  refine tG.of (h.ex.mono ?_)
  rintro y H1 ⟨v, B1, r1, O1, s1, b1, x1, c1, o, r', e, p⟩
  cases e
  exact p B1 H1 O1 σ s1 c1 b1
/-- the slot i gets a result -/
theorem put_ok {K : PySem.W.Frag} {B H0 H : Hp} {σ : L2.St} {r r' : Ro} {O : Addr → Prop} {i : Nat} {v : RV} {x : V} {o : SO} (c : Con K B H σ r O) (e : putSl i v r = some (o, r')) (h : RvR K H0 B H O v x) (live : ∀ p, H0 p ≠ none → H p ≠ none) :
    o = .nx ∧ ∃ O', Con K B H (σ.set i (some x)) r' O' ∧ Bor r σ r' (σ.set i (some x)) ∧ ∀ a, O' a → O a ∨ H0 a = none := by
  unfold putSl at e
  split at e
  · cases e
  · rename_i y hy
    split at e
    · cases e
    · rename_i np
      have hi : i < σ.length := by
        rw [← c.len]
        exact (List.getElem?_eq_some_iff.mp hy).1
      have bor : ∀ z, Bor r σ (r.set i z) (σ.set i (some x)) := fun z j w hw pw => by
        have hj : j ≠ i := fun e => by
          subst e
          rw [hy] at hw; cases hw
          cases y <;> exact np pw
        exact ⟨⟨w, by rw [List.getElem?_set_ne (Ne.symm hj)]; exact hw, pw⟩, List.getElem?_set_ne (Ne.symm hj)⟩
      cases v with
      | val d =>
        cases e
        exact ⟨rfl, O, c.setF hi h, bor _, fun a h => .inl h⟩
      | new ct =>
        have e' : (∀ rows, ct = .ll rows → noAl r i = true) ∧ o = .nx ∧ r' = r.set i (.own false ct) := by
          cases ct with
          | ll rows =>
            simp only at e
            split at e
            · rename_i q; cases e; exact ⟨fun _ _ => q, rfl, rfl⟩
            · cases e
          | _ => cases e; exact ⟨fun _ z => (by cases z), rfl, rfl⟩
        obtain ⟨hal, rfl, rfl⟩ := e'
        obtain ⟨F, hF, c'⟩ := c.setN (b := false) hi h hal
        exact ⟨rfl, _, c', bor _, fun a h => h.elim .inl fun h => .inr (hF a h).1⟩
theorem put_step {B H B1 H1 : Hp} {O O1 O' : Addr → Prop} (s : Step B H O B1 H1 O1) (h : ∀ a, O' a → O1 a ∨ H a = none) : Step B H O B1 H1 O' :=
  ⟨s.sB, s.keep, s.live, s.nB, fun a z => (h a z).elim (s.nO a) .inr⟩
theorem ds_setG {st : Stmt} {i : Nat} {m : M RV} (h : PS X st (tAsg (tG (Cx.g X) W m (rV (Cx.g X))) (gName i))) : DS X W st (sSet i m) := ps_weak h fun D σ H ⟨B, r, O, h⟩ => by
  refine tG.of (h.ex.mono ?_)
  rintro y H1 ⟨v, B1, r1, O1, s1, b1, x1, c1, o, r', e, p⟩
  obtain ⟨rfl, O2, c2, b2, h2⟩ := put_ok c1 e x1 s1.live
  exact p B1 H1 O2 _ (put_step s1 h2) c2 (b1.trans b2)
/-- name = e -/
theorem ds_set {i : Nat} {x : Str} {e : Expr} {pos pos' : Pos} {m : M RV} (hN : X.N.Nodup) (hi : X.N[i]? = some x) (hx : Loc X.env.scope x) (he : DE X W e m) (hs : swapsWith e (some (.Name x pos')) pos.line X.env = pure false := by rfl)
    (hf : X.fn x = true ∨ X.env.scope.names.lookup x = some .local := by first | exact .inl rfl | exact .inr rfl | assumption) : DS X W (.Assign [.Name x pos'] e pos) (sSet i m) := ds_setG (ps_set hN hi hx he hs hf)
end
end DL
end

section
namespace DL
open PySem
def forS (set : D → S) (body : S) : List D → S
  | [] => sNx
  | d :: ds => fun r => match set d r with
    | some (.nx, r1) => match body r1 with
      | some (.nx, r2) => forS set body ds r2
      | some (.cnt, r2) => forS set body ds r2
      | some (.brk, r2) => some (.nx, r2)
      | z => z
    | _ => none
def sFor (mi : M (List D)) (set : D → S) (body : S) : S := sEx mi (forS set body)
/-- several targets -/
def sets : List (D → S) → List D → S
  | [], [] => sNx
  | f :: fs, d :: ds => sSeq (f d) (sets fs ds)
  | _, _ => fun _ => none
def setN (i : Nat) : D → S := fun d => putSl i (.val d)
def setT (fs : List (D → S)) : D → S
  | .tuple ds => sets fs ds
  | _ => fun _ => none
/-- a comprehension's own names are forgotten -/
def wipeR (r : Ro) : List Nat → Ro
  | [] => r
  | v :: vs => (wipeR r vs).set v .non
def anyPin (r : Ro) (vs : List Nat) : Bool := vs.any fun i => match r[i]? with
  | some x => putSl.pinnedB x
  | none => false
def lcM (vs : List Nat) (set : D → S) (t : M Bool) (e : M RV) : List D → List D → Ro → Option (List D × Ro)
  | [], acc, r => some (acc, r)
  | d :: ds, acc, r => match set d r with
    | some (.nx, r1) => match t r1 with
      | some (.ok true, r2) => match mFz e r2 with
        | some (.ok x, r3) => if acc.length < lineD then lcM vs set t e ds (acc ++ [x]) (wipeR r3 vs) else none
        | _ => none
      | some (.ok false, r2) => lcM vs set t e ds acc (wipeR r2 vs)
      | _ => none
    | _ => none
def mLc (vs : List Nat) (mi : M (List D)) (set : D → S) (t : M Bool) (e : M RV) : M RV := mi.bind fun ds => fun r =>
  if anyPin r vs then none else (lcM vs set t e ds [] (wipeR r vs)).map fun p => (.ok (.new (.lst p.1)), p.2)
/-- what is walked -/
def mRow (m : M RV) : M (List D) := (mFz m).bind fun d => M.of (rowOf d)
def rng (lo hi : Int) : List D := (List.range (hi - lo).toNat).map fun i => .int (lo + (i : Nat))
def okR (i : Int) : Bool := decide (-(2 ^ 62) ≤ i) && decide (i < 2 ^ 62)
def gRng1 : List Rs → Option (List D)
  | [.fz (.int j)] => if okR j then some (rng 0 j) else none
  | _ => none
def mOpL (g : List Rs → Option (List D)) (ms : List (M AV)) : M (List D) := (oL ms).bind fun as => fun r => match looks2 r as with
  | none => none
  | some xs => (g xs).map fun v => (.ok v, r)
def mYes : M Bool := M.ret true
end DL
end

section
namespace DL
open PySem PySem.Spec PyProof.Rows L2
/-- a pair that a walk has just made: its items alone are data -/
def Dw (K : PySem.W.Frag) (B : Hp) (v : V) (d : D) : Prop := ∃ a xs ds, v = .ref a ∧ d = .tuple ds ∧ SqT K B a xs ∧ DqAll K B xs ds
/-- the iterator yields the items ds, as long as what stood still stands -/
structure Serves (K : PySem.W.Frag) (lo : Bool) (J : It) (B0 : Hp) (ds : List D) : Prop where
  stop : ∀ H, Same B0 H → J.stop ds.length H
  go : ∀ i H, i < ds.length → Same B0 H → J.go i H
  yld : ∀ i H x H' d, ds[i]? = some d → Same B0 H → J.yld i H x H' → ∀ B, Same B0 B → Same B H → (H' = H ∧ Dq K B x d) ∨ (lo = true ∧ ∃ T vs, H T = none ∧ H' = upd H T (.tup vs) ∧ Dw K (upd B T (.tup vs)) x d)
def rI (G : Ct2) (lo : Bool) : Rl (List D) It := fun _ B' _ _ _ ds J => Serves G.K lo J B' ds
theorem later_rI {G : Ct2} {lo : Bool} : Later (rI G lo) := fun _ _ _ _ _ _ _ _ _ h => h
def DI (X : Cx) (W : WX) (lo : Bool) (tg iter : Expr) (m : M (List D)) : Prop := PI X tg iter (tG (Cx.g X) W m (rI (Cx.g X) lo))
theorem pi_weak {X : Cx} {tg e : Expr} {t t' : TI} (h : PI X tg e t) (w : ∀ σ H Q, t' σ H Q → t σ H Q) : PI X tg e t' := ⟨fun pins s σ H Q I q => h.run pins s σ H Q I (w σ H Q q)⟩
/-- a target's store of data: only the slots ix change -/
def gD (K : PySem.W.Frag) (lo : Bool) (ix : List Nat) (set : D → S) : TG := fun v σ H Q => ∃ B r O d r', Con K B H σ r O ∧ (Dq K B v d ∨ (lo = true ∧ Dw K B v d)) ∧ set d r = some (.nx, r') ∧
  ∀ σ', Con K B H σ' r' O → Bor r σ r' σ' → (∀ j : Nat, j ∉ ix → σ'[j]? = σ[j]?) → σ'.length = σ.length → Q σ' H
def DG (X : Cx) (lo : Bool) (tg : Expr) (ix : List Nat) (set : D → S) : Prop := PG X tg (gD X.K lo ix set)
theorem pg_weak {X : Cx} {e : Expr} {t t' : TG} (h : PG X e t) (w : ∀ v σ H Q, t' v σ H Q → t v σ H Q) : PG X e t' := ⟨fun pins s σ H v u Q I r q => h.run pins s σ H v u Q I r (w v σ H Q q)⟩
theorem pgs_weak {X : Cx} {e : List Expr} {t t' : TGs} (h : PGs X e t) (w : ∀ v σ H Q, t' v σ H Q → t v σ H Q) : PGs X e t' := ⟨fun pins s σ H v u Q I r q => h.run pins s σ H v u Q I r (w v σ H Q q)⟩
theorem dg_name {X : Cx} {i : Nat} {x : Str} {pos : Pos} (hN : X.N.Nodup) (hi : X.N[i]? = some x) (hx : Loc X.env.scope x) (hf : X.fn x = true ∨ X.env.scope.names.lookup x = some .local := by first | exact .inl rfl | exact .inr rfl | assumption) : DG X false (.Name x pos) [i] (setN i) :=
  pg_weak (pg_name hN hi hx hf) fun v σ H Q ⟨B, r, O, d, r', c, h, e, q⟩ => by
    have h : Dq X.K B v d := h.elim id fun z => nomatch z.1
    have e' : putSl i (.val d) r = some (.nx, r') := e
    unfold putSl at e'
    split at e'
    · cases e'
    · rename_i y hy
      split at e'
      · cases e'
      · rename_i np
        cases e'
        have hi : i < σ.length := by rw [← c.len]; exact (List.getElem?_eq_some_iff.mp hy).1
        refine q _ (c.setF hi h) (fun j w hw pw => ?_) (fun j hj => List.getElem?_set_ne (fun e => hj (by simp [e]))) List.length_set
        have hj : j ≠ i := fun e => by
          subst e
          rw [hy] at hw; cases hw
          cases y <;> exact np pw
        exact ⟨⟨w, by rw [List.getElem?_set_ne (Ne.symm hj)]; exact hw, pw⟩, List.getElem?_set_ne (Ne.symm hj)⟩
def gDs (K : PySem.W.Frag) (ix : List Nat) (fs : List (D → S)) : TGs := fun vs σ H Q => ∃ B r O ds r', Con K B H σ r O ∧ DqAll K B vs ds ∧ sets fs ds r = some (.nx, r') ∧
  ∀ σ', Con K B H σ' r' O → Bor r σ r' σ' → (∀ j : Nat, j ∉ ix → σ'[j]? = σ[j]?) → σ'.length = σ.length → Q σ' H
def DGs (X : Cx) (tgs : List Expr) (ix : List Nat) (fs : List (D → S)) : Prop := PGs X tgs (gDs X.K ix fs)
theorem dgs_nil {X : Cx} : DGs X [] [] [] := pgs_weak pgs_nil fun v σ H Q ⟨B, r, O, ds, r', c, h, e, q⟩ => by
  cases h with
  | nil =>
    cases e
    exact ⟨rfl, q σ c .refl (fun _ _ => rfl) rfl⟩
  | cons _ _ => cases e
theorem dgs_cons {X : Cx} {t : Expr} {ts : List Expr} {ix jx : List Nat} {f : D → S} {fs : List (D → S)} (h1 : DG X false t ix f) (h2 : DGs X ts jx fs) (hs : List.map (fun x => x.snd) (assignEach (t :: ts) X.env) = assign t X.env :: List.map (fun x => x.snd) (assignEach ts X.env) := by rfl) : DGs X (t :: ts) (ix ++ jx) (f :: fs) := pgs_weak (pgs_cons h1 h2 hs) fun v σ H Q ⟨B, r, O, ds, r', c, h, e, q⟩ => by
  cases h with
  | nil => cases e
  | @cons v vs d ds hd hds =>
    have e' : sSeq (f d) (sets fs ds) r = some (.nx, r') := e
    unfold sSeq at e'
    cases q1 : f d r with
    | none => rw [q1] at e'; cases e'
    | some z =>
      obtain ⟨o1, r1⟩ := z
      rw [q1] at e'
      cases o1 with
      | nx =>
        refine ⟨v, vs, rfl, B, r, O, d, r1, c, .inl hd, q1, fun σ1 c1 b1 k1 l1 => ⟨B, r1, O, ds, r', c1, hds, e', fun σ2 c2 b2 k2 l2 => q σ2 c2 (b1.trans b2) (fun j hj => ?_) (l2.trans l1)⟩⟩
        simp only [List.mem_append, not_or] at hj
        rw [k2 j hj.2, k1 j hj.1]
      | _ => cases e'
theorem sets_len : ∀ {fs : List (D → S)} {ds : List D} {r r' : Ro} {o : SO}, sets fs ds r = some (o, r') → o = .nx → ds.length = fs.length
  | [], [], _, _, _, _, _ => rfl
  | [], _ :: _, _, _, _, e, _ => by cases e
  | _ :: _, [], _, _, _, e, _ => by cases e
  | f :: fs, d :: ds, r, r', o, e, ho => by
    have e' : sSeq (f d) (sets fs ds) r = some (o, r') := e
    unfold sSeq at e'
    split at e'
    · rename_i r1 q
      rw [List.length_cons, List.length_cons, sets_len e' ho]
    · rename_i n
      subst ho
      exact (n r' e').elim
theorem dg_tup {X : Cx} {lo : Bool} {es : List Expr} {k : Nat} {pos : Pos} {ix : List Nat} {fs : List (D → S)} (hc : X.calm = true) (h : DGs X es ix fs)
    (hn : (assignEach es X.env).length = fs.length := by rfl) (hst : (assignEach es X.env).findIdx? (·.1) = none := by rfl) : DG X lo (.Tuple es k pos) ix (setT fs) := pg_weak (pg_tup hc h hn hst) fun v σ H Q ⟨B, r, O, d, r', c, hd, e, q⟩ => by
  cases d with
  | tuple ds =>
    obtain ⟨a, xs, rfl, hs, ha⟩ : ∃ a xs, v = .ref a ∧ SqT X.K B a xs ∧ DqAll X.K B xs ds := by
      rcases hd with hd | ⟨_, a, xs, es, rfl, e, h1, h2⟩
      · obtain ⟨a, xs, rfl, h1, h2⟩ := dp_tuple hd
        exact ⟨a, xs, rfl, h1.sq, h2⟩
      · cases e
        exact ⟨a, xs, rfl, h1, h2⟩
    have e' : sets fs ds r = some (.nx, r') := e
    exact ⟨a, xs, rfl, sqt_same c.sub hs, by rw [ha.length]; exact sets_len e' rfl, B, r, O, ds, r', c, ha, e', q⟩
  | _ => cases e
/-- a walk of a loop -/
theorem ds_for {lo : Bool} {tg iter : Expr} {body : List Stmt} {pos : Pos} {X : Cx} {W : WX} {mi : M (List D)} {ix : List Nat} {set : D → S} {mb : S} (hp : PassesOwn (model X.prog X.w) X.A X.env X.xe) (hc : X.calm = true) (hi : DI X W lo tg iter mi) (hg : DG X lo tg ix set) (hb : DSs X W body mb)
    (hs : ∀ x, foldedSetIterable iter X.env x = pure x := by intro _; rfl) : DS X W (.For tg iter body [] pos) (sFor mi set mb) := ps_weak (ps_for hp hc hi hg hb hs) fun D σ H ⟨B, r, O, h⟩ => by
  refine tG.of (h.ex.mono ?_)
  rintro J H1 ⟨ds, B1, r1, O1, s1, b1, x1, c1, o, r', e, p⟩
  refine ⟨fun i m σ' H' => m = ds.length - i ∧ i ≤ ds.length ∧ ∃ B' r2 O', Step B1 H1 O1 B' H' O' ∧ Con X.K B' H' σ' r2 O' ∧ Bor r1 σ r2 σ' ∧ forS set mb (ds.drop i) r2 = some (o, r'), ⟨ds.length, by simp, Nat.zero_le _, B1, r1, O1, .refl, c1, .refl, e⟩, ?_⟩
  rintro i m σ2 H2 ⟨rfl, hi2, B2, r2, O2, s2, c2, b2, e2⟩
  have sv : Serves X.K lo J B1 ds := x1
  have same : Same B1 H2 := s2.sB.trans c2.sub
  by_cases hlt : i < ds.length
  · refine .inr ⟨sv.go i H2 hlt same, fun σ' H' => i + 1 ≤ ds.length ∧ ∃ B' r2 O', Step B1 H1 O1 B' H' O' ∧ Con X.K B' H' σ' r2 O' ∧ Bor r1 σ r2 σ' ∧ forS set mb (ds.drop (i + 1)) r2 = some (o, r'), fun σ' H' z => ⟨ds.length - (i + 1), by omega, rfl, z⟩, fun x H3 y => ?_⟩
    have ed : ds.drop i = ds[i] :: ds.drop (i + 1) := (List.drop_eq_getElem_cons hlt)
    rw [ed] at e2
    -- the item
    obtain ⟨B3, s3, c3, d3⟩ : ∃ B3, Step B2 H2 O2 B3 H3 O2 ∧ Con X.K B3 H3 σ2 r2 O2 ∧ (Dq X.K B3 x ds[i] ∨ (lo = true ∧ Dw X.K B3 x ds[i])) := by
      rcases sv.yld i H2 x H3 ds[i] (List.getElem?_eq_getElem hlt) same y B2 s2.sB c2.sub with ⟨rfl, d⟩ | ⟨hlo, T, vs, hT, rfl, d⟩
      · exact ⟨B2, .refl, c2, .inl d⟩
      · obtain ⟨c4, s4⟩ := c2.layF (o := .tup vs) hT
        exact ⟨_, s4, c4, .inr ⟨hlo, d⟩⟩
    simp only [forS] at e2
    cases q1 : set ds[i] r2 with
    | none => rw [q1] at e2; cases e2
    | some z1 =>
      obtain ⟨o1, r3⟩ := z1
      rw [q1] at e2
      cases o1 with
      | nx =>
        refine ⟨B3, r2, O2, ds[i], r3, c3, d3, q1, fun σ3 c4 b4 k4 l4 => ⟨B3, r3, O2, c4, ?_⟩⟩
        simp only at e2
        have s03 := s2.trans s3
        have b03 := b2.trans b4
        cases q2 : mb r3 with
        | none => rw [q2] at e2; cases e2
        | some z2 =>
          obtain ⟨o2, r4⟩ := z2
          rw [q2] at e2
          refine ⟨o2, r4, rfl, ?_⟩
          cases o2 with
          | nx => exact fun B' H' O' σ' s' c' b' => ⟨hlt, B', r4, O', s03.trans s', c', b03.trans b', e2⟩
          | cnt => exact fun B' H' O' σ' s' c' b' => ⟨hlt, B', r4, O', s03.trans s', c', b03.trans b', e2⟩
          | brk =>
            cases e2
            exact fun B' H' O' σ' s' c' b' => p B' H' O' σ' (s1.trans (s03.trans s')) c' (b1.trans (b03.trans b'))
          | ret v =>
            cases e2
            exact fun B' H' O' σ' x s' c' b' y => p B' H' O' σ' x (s1.trans (s03.trans s')) c' (b1.trans (b03.trans b')) (later_rV (G := Cx.g X) _ H3 B' H' O' σ' v x (fun a ha => (s03.live a) (s1.live a ha)) y)
          | rets j =>
            cases e2
            exact fun B' H' O' σ' x s' c' b' y => p B' H' O' σ' x (s1.trans (s03.trans s')) c' (b1.trans (b03.trans b')) y
          | exc ex =>
            cases e2
            exact fun B' H' O' σ' k dx s' c' b' y => p B' H' O' σ' k dx (s1.trans (s03.trans s')) c' (b1.trans (b03.trans b')) y
      | _ => cases e2
  · have ei : i = ds.length := by omega
    subst ei
    rw [List.drop_length] at e2
    cases e2
    exact .inl ⟨sv.stop H2 same, p B2 H2 O2 σ2 (s1.trans s2) c2 (b1.trans b2)⟩
end DL
end

section
namespace DL
open PySem PySem.Spec PyProof.Rows L2
theorem wipe_in {σ : L2.St} {i : Nat} {x : V} : ∀ {vs : List Nat}, i ∈ vs → (wipe σ vs)[i]? ≠ some (some x)
  | vs, h, e => (wipe_some e).2 h
theorem wipeR_len {r : Ro} : ∀ {vs : List Nat}, (wipeR r vs).length = r.length
  | [] => rfl
  | v :: vs => by
    show ((wipeR r vs).set v .non).length = _
    rw [List.length_set, wipeR_len]
theorem wipeR_out {r : Ro} {i : Nat} : ∀ {vs : List Nat}, i ∉ vs → (wipeR r vs)[i]? = r[i]?
  | [], _ => rfl
  | v :: vs, h => by
    simp only [List.mem_cons, not_or] at h
    show ((wipeR r vs).set v .non)[i]? = _
    rw [List.getElem?_set_ne (Ne.symm h.1), wipeR_out h.2]
theorem wipeR_in {r : Ro} {i : Nat} {x : Sl} : ∀ {vs : List Nat}, i ∈ vs → (wipeR r vs)[i]? = some x → x = .non
  | v :: vs, h, e => by
    have e : ((wipeR r vs).set v .non)[i]? = some x := e
    rcases get_set e with ⟨_, z⟩ | ⟨n, e⟩
    · exact z
    · rcases List.mem_cons.mp h with rfl | h
      · exact absurd rfl n
      · exact wipeR_in h e
/-- the slots vs are forgotten: they may stand as they like -/
theorem Con.wiped {K : PySem.W.Frag} {B H : Hp} {σ σ' : L2.St} {r : Ro} {O : Addr → Prop} (c : Con K B H σ r O) {vs : List Nat} (hl : σ'.length = σ.length) (hs : ∀ j : Nat, j ∉ vs → σ'[j]? = σ[j]?) : Con K B H σ' (wipeR r vs) O := by
  induction vs generalizing σ' with
  | nil =>
    have e : σ' = σ := List.ext_getElem? fun j => hs j (by simp)
    subst e
    exact c
  | cons v vs ih =>
    -- first all but v
    have c1 := ih (σ' := σ'.set v ((σ[v]?).getD none)) (by rw [List.length_set, hl]) fun j hj => by
      by_cases e : j = v
      · subst e
        by_cases hv : j < σ'.length
        · rw [List.getElem?_set_self hv]
          have : j < σ.length := by omega
          rw [List.getElem?_eq_getElem this]
          rfl
        · rw [List.getElem?_eq_none (by rw [List.length_set]; omega), List.getElem?_eq_none (by omega)]
      · rw [List.getElem?_set_ne (Ne.symm e)]
        exact hs j (by simp [e, hj])
    exact c1.replace (i := v) (x := .non) (by rw [List.length_set]) (fun j n => by rw [List.getElem?_set_ne (Ne.symm n)]) trivial (fun _ _ e => by cases e)
theorem bor_wipe {r : Ro} {σ σ' : L2.St} {vs : List Nat} (h : anyPin r vs = false) (hs : ∀ j : Nat, j ∉ vs → σ'[j]? = σ[j]?) : Bor r σ (wipeR r vs) σ' := fun i x hx px => by
  have hi : i ∉ vs := fun hm => by
    have : anyPin r vs = true := List.any_eq_true.mpr ⟨i, hm, by rw [hx]; cases x <;> exact px⟩
    rw [h] at this; cases this
  exact ⟨⟨x, by rw [wipeR_out hi]; exact hx, px⟩, hs i hi⟩
def DTs (X : Cx) (W : WX) (ifs : List Expr) (m : M Bool) : Prop := PTs X ifs (tG (Cx.g X) W m rB)
theorem dts_nil {X : Cx} {W : WX} : DTs X W [] mYes := ⟨fun pins s σ H Q I ⟨B, r, O, h⟩ => pts_nil.run pins s σ H Q I (h.ret rfl)⟩
theorem dts_one {X : Cx} {W : WX} {c : Expr} {m : M Bool} (h : DB X W c m) : DTs X W [c] m := pts_one h
abbrev W0 : WX := fun _ _ _ _ => False
/-- a slot list without the comprehension's own names -/
def Clear (r : Ro) (vs : List Nat) : Prop := ∀ i ∈ vs, ∀ x, r[i]? = some x → x = Sl.non
theorem clear_wipe {r : Ro} {vs : List Nat} (h : Clear r vs) : wipeR r vs = r := by
  apply List.ext_getElem?
  intro j
  by_cases hj : j ∈ vs
  · cases q : r[j]? with
    | none => rw [List.getElem?_eq_none_iff] at q ⊢; rw [wipeR_len]; exact q
    | some x =>
      rw [h j hj x q]
      cases q2 : (wipeR r vs)[j]? with
      | none =>
        rw [List.getElem?_eq_none_iff, wipeR_len] at q2
        rw [List.getElem?_eq_none_iff.mpr q2] at q
        cases q
      | some y => rw [wipeR_in hj q2]
  · exact wipeR_out hj
theorem bor_wipe2 {r1 r4 : Ro} {σ σ2 σ' : L2.St} {vs : List Nat} (h : anyPin r1 vs = false) (b : Bor r1 σ r4 σ2) (hs : ∀ j : Nat, j ∉ vs → σ'[j]? = σ[j]?) : Bor r1 σ (wipeR r4 vs) σ' := fun i x hx px => by
  have hi : i ∉ vs := fun hm => by
    have : anyPin r1 vs = true := List.any_eq_true.mpr ⟨i, hm, by rw [hx]; cases x <;> exact px⟩
    rw [h] at this; cases this
  obtain ⟨⟨y, h1, h2⟩, h3⟩ := b i x hx px
  exact ⟨⟨y, by rw [wipeR_out hi]; exact h1, h2⟩, hs i hi⟩
section
variable {X : Cx} {W : WX}
theorem lc_read {lo : Bool} {mi : M (List D)} {vs ix : List Nat} {set : D → S} {t : M Bool} {me : M RV} (hix : ∀ j ∈ ix, j ∈ vs) {σ : L2.St} {H : Hp} {Q : VK} (h : tG (Cx.g X) W (mLc vs mi set t me) (rV (Cx.g X)) σ H Q) :
    tLc (tG (Cx.g X) W mi (rI (Cx.g X) lo)) (gD X.K lo ix set) (tG (Cx.g X) W0 t rB) (tG (Cx.g X) W0 me (rV (Cx.g X))) vs σ H Q := by
  obtain ⟨B, r, O, h⟩ := h
  refine tG.of ((h.bind later_rV (R := rI (Cx.g X) lo)).mono ?_)
  rintro J H1 ⟨ds, B1, r1, O1, s1, x1, c1, o, r', e, p⟩
  intro D hD
  have sv : Serves X.K lo J B1 ds := x1
  simp only at e
  split at e
  · cases e
  · rename_i np
    have np : anyPin r1 vs = false := by simpa using np
    cases q : lcM vs set t me ds [] (wipeR r1 vs) with
    | none => rw [q] at e; cases e
    | some z =>
      obtain ⟨xs, rf⟩ := z
      rw [q] at e
      cases e
      obtain ⟨bD, nD, c2, s2⟩ := c1.lay (o := .lst []) hD
      have wl := wipe_length σ vs
      have wo : ∀ j : Nat, j ∉ vs → (wipe σ vs)[j]? = σ[j]? := fun j hj => wipe_out hj
      refine ⟨fun i m H' => m = ds.length - i ∧ i ≤ ds.length ∧ ∃ B' r2 O' acc ad, Step B1 H1 O1 B' H' O' ∧ Con X.K B' H' (wipe σ vs) r2 O' ∧ Clear r2 vs ∧ Bor r1 σ r2 (wipe σ vs) ∧ H' D = some (.lst acc) ∧ DqAll X.K B' acc ad ∧ B' D = none ∧ ¬ O' D ∧ lcM vs set t me (ds.drop i) ad r2 = some (xs, rf),
        ⟨ds.length, by simp, Nat.zero_le _, B1, _, O1, [], [], s2, c2.wiped wl wo, fun i hi x hx => wipeR_in hi hx, bor_wipe np wo, upd_same, .nil, bD, nD, q⟩, ?_⟩
      rintro i m H2 ⟨rfl, hi2, B2, r2, O2, acc, ad, s3, c3, k3, b3, hA, hQ, bD2, nD2, e2⟩
      have same : Same B1 H2 := s3.sB.trans c3.sub
      by_cases hlt : i < ds.length
      · refine .inr ⟨sv.go i H2 hlt same, fun H' => i + 1 ≤ ds.length ∧ ∃ B' r2 O' acc ad, Step B1 H1 O1 B' H' O' ∧ Con X.K B' H' (wipe σ vs) r2 O' ∧ Clear r2 vs ∧ Bor r1 σ r2 (wipe σ vs) ∧ H' D = some (.lst acc) ∧ DqAll X.K B' acc ad ∧ B' D = none ∧ ¬ O' D ∧ lcM vs set t me (ds.drop (i + 1)) ad r2 = some (xs, rf),
          fun H' z => ⟨ds.length - (i + 1), by omega, rfl, z⟩, fun x H3 y => ?_⟩
        have ed : ds.drop i = ds[i] :: ds.drop (i + 1) := (List.drop_eq_getElem_cons hlt)
        rw [ed] at e2
        obtain ⟨B3, s4, c4, d4⟩ : ∃ B3, Step B2 H2 O2 B3 H3 O2 ∧ Con X.K B3 H3 (wipe σ vs) r2 O2 ∧ (Dq X.K B3 x ds[i] ∨ (lo = true ∧ Dw X.K B3 x ds[i])) := by
          rcases sv.yld i H2 x H3 ds[i] (List.getElem?_eq_getElem hlt) same y B2 s3.sB c3.sub with ⟨rfl, d⟩ | ⟨hlo, T, ws, hT, rfl, d⟩
          · exact ⟨B2, .refl, c3, .inl d⟩
          · obtain ⟨c5, s5⟩ := c3.layF (o := .tup ws) hT
            exact ⟨_, s5, c5, .inr ⟨hlo, d⟩⟩
        simp only [lcM] at e2
        cases q1 : set ds[i] r2 with
        | none => rw [q1] at e2; cases e2
        | some z1 =>
          obtain ⟨o1, r3⟩ := z1
          rw [q1] at e2
          cases o1 with
          | nx =>
            refine ⟨B3, r2, O2, ds[i], r3, c4, d4, q1, fun σ2 c5 b5 k5 l5 => ⟨?_, ?_⟩⟩
            · apply List.ext_getElem?
              intro j
              by_cases hj : j ∈ vs
              · by_cases hl : j < σ.length
                · have g : ∀ τ : L2.St, τ.length = σ.length → (wipe τ vs)[j]? = some none := fun τ hτ => by
                    cases qq : (wipe τ vs)[j]? with
                    | none => rw [List.getElem?_eq_none_iff, wipe_length] at qq; omega
                    | some w => cases w with
                      | none => rfl
                      | some w => exact absurd qq (wipe_in hj)
                  rw [g σ rfl, g σ2 (l5.trans wl)]
                · rw [List.getElem?_eq_none (by rw [wipe_length, l5, wl]; omega), List.getElem?_eq_none (by rw [wl]; omega)]
              · rw [wipe_out hj, wipe_out hj, k5 j (fun z => hj (hix j z)), wipe_out hj]
            · simp only at e2
              cases q2 : t r3 with
              | none => rw [q2] at e2; cases e2
              | some z2 =>
                obtain ⟨o2, r4⟩ := z2
                rw [q2] at e2
                refine ⟨B3, r3, O2, c5, o2, r4, q2, ?_⟩
                cases o2 with
                | exc x => cases e2
                | ok b =>
                  intro B5 H5 O5 b' s6 c6 b6 hb'
                  cases hb'
                  have s36 : Step B1 H1 O1 B5 H5 O5 := (s3.trans s4).trans s6
                  have hA3 : H3 D = some (.lst acc) := s4.keep D _ hA nD2
                  have bD3 : B3 D = none := s4.nB D (by rw [hA]; simp) nD2 bD2
                  have hA5 : H5 D = some (.lst acc) := s6.keep D _ hA3 nD2
                  have bD5 : B5 D = none := s6.nB D (by rw [hA3]; simp) nD2 bD3
                  have nD5 : ¬ O5 D := fun z => by
                    rcases s6.nO D z with z | z
                    · exact nD2 z
                    · rw [hA3] at z; cases z
                  cases b with
                  | false =>
                    exact iteF ⟨hlt, B5, wipeR r4 vs, O5, acc, ad, s36, c6.wiped (wl.trans (l5.trans wl).symm |>.trans rfl) fun j hj => (k5 j fun z => hj (hix j z)).symm, fun i hi x hx => wipeR_in hi hx, bor_wipe2 np (b3.trans (b5.trans b6)) wo, hA5, dqa_same' s4 s6 hQ, bD5, nD5, e2⟩
                  | true =>
                    simp only at e2
                    cases q3 : mFz me r4 with
                    | none => rw [q3] at e2; cases e2
                    | some z3 =>
                      obtain ⟨o3, r5⟩ := z3
                      rw [q3] at e2
                      cases o3 with
                      | exc x => cases e2
                      | ok d =>
                        simp only at e2
                        split at e2
                        · rename_i hz
                          refine iteT (tG.of (At.froz ⟨c6, .ok d, r5, q3, fun B6 H6 O6 y6 s7 c7 b7 d7 => ?_⟩))
                          have hA6 : H6 D = some (.lst acc) := s7.keep D _ hA5 nD5
                          have bD6 : B6 D = none := s7.nB D (by rw [hA5]; simp) nD5 bD5
                          have nD6 : ¬ O6 D := fun z => by
                            rcases s7.nO D z with z | z
                            · exact nD5 z
                            · rw [hA5] at z; cases z
                          have qa := dpa_same s7.sB (dqa_same' s4 s6 hQ)
                          refine ⟨acc, hA6, by rw [qa.length, ← line_eq]; exact hz, hlt, ?_⟩
                          -- the new list grows: it is nobody's
                          have c8 : Con X.K B6 (upd H6 D (.lst (acc ++ [y6]))) σ2 r5 O6 := c7.mono (Same.refl _) (fun a w ha => by
                            by_cases z : a = D
                            · subst z; rw [bD6] at ha; cases ha
                            · rw [upd_ne z]; exact c7.sub a w ha) (fun a ha => upd_ne (show a ≠ D from fun z => nD6 (by rw [← z]; exact ha))) c7.off
                          have s37 := s36.trans s7
                          have s9 : Step B1 H1 O1 B6 (upd H6 D (.lst (acc ++ [y6]))) O6 := ⟨s37.sB, fun a w ha na => by
                            rw [upd_ne (ne_of_none ha hD)]
                            exact s37.keep a w ha na, fun a ha => by
                            by_cases z : a = D
                            · subst z; rw [upd_same]; simp
                            · rw [upd_ne z]; exact s37.live a ha, s37.nB, s37.nO⟩
                          exact ⟨B6, wipeR r5 vs, O6, acc ++ [y6], ad ++ [d], s9, c8.wiped (wl.trans (l5.trans wl).symm |>.trans rfl) fun j hj => (k5 j fun z => hj (hix j z)).symm, fun i hi x hx => wipeR_in hi hx, bor_wipe2 np (b3.trans (b5.trans (b6.trans b7))) wo, upd_same, qa.append (.cons d7 .nil), bD6, nD6, e2⟩
                        · cases e2
          | _ => cases e2
      · have ei : i = ds.length := by omega
        subst ei
        rw [List.drop_length] at e2
        cases e2
        refine .inl ⟨sv.stop H2 same, p B2 H2 O2 (.ref D) s3 ?_ (fun i x hx px => ⟨(b3 i x hx px).1, rfl⟩) ⟨D, [D], rfl, ⟨rfl, acc, hA, hQ⟩, fun a ha => ?_⟩⟩
        · have c9 := c3.wiped (σ' := σ) wl.symm fun j hj => (wo j hj).symm
          rw [clear_wipe k3] at c9
          exact c9
        · simp at ha
          subst ha
          exact ⟨hD, bD2, nD2⟩
where
  dqa_same' {K : PySem.W.Frag} {B2 H2 B3 H3 B5 H5 : Hp} {O2 O3 O5 : Addr → Prop} {acc : List V} {ad : List D} (s4 : Step B2 H2 O2 B3 H3 O3) (s6 : Step B3 H3 O3 B5 H5 O5) (h : DqAll K B2 acc ad) : DqAll K B5 acc ad := dpa_same s6.sB (dpa_same s4.sB h)
/-- [elt for target in iter if ..] -/
theorem de_lc {lo : Bool} {elt tg iter : Expr} {ifs : List Expr} {scope : Scope} {own : List (Str × Nat)} {pos : Pos} {mi : M (List D)} {ix : List Nat} {set : D → S} {t : M Bool} {me : M RV} (hc : X.calm = true) (hN : X.N.Nodup) (hi : DI X W lo tg iter mi) (ok : BlkOk X.N X.env.scope scope own)
    (hg : ∀ (s : Shared) (H : Hp) (C : Addr) (cl : List (Str × Addr)) (fp : List Addr), DG (X.blk s H scope (compEnvC scope cl C X.env) fp) lo tg ix set) (ht : ∀ (s : Shared) (H : Hp) (C : Addr) (cl : List (Str × Addr)) (fp : List Addr), DTs (X.blk s H scope (compEnvC scope cl C X.env) fp) W0 ifs t)
    (he : ∀ (s : Shared) (H : Hp) (C : Addr) (cl : List (Str × Addr)) (fp : List Addr), DE (X.blk s H scope (compEnvC scope cl C X.env) fp) W0 elt me) (hix : ∀ j ∈ ix, j ∈ own.map (·.2)) (hs : ∀ x, foldedSetIterable iter X.env x = pure x := by intro _; rfl) :
    DE X W (.ListComp elt [⟨tg, iter, ifs, 0⟩] scope pos) (mLc (own.map (·.2)) mi set t me) :=
  pe_weak (pe_lc (g := gD X.K lo ix set) (tt := tG (Cx.g X) W0 t rB) (te := tG (Cx.g X) W0 me (rV (Cx.g X))) hc hN hi ok hg ht he hs) fun σ H Q h => lc_read hix h
/-- name = [..] on one line -/
theorem ds_setLc {lo : Bool} {i : Nat} {y : Str} {py : Pos} {elt tg iter : Expr} {ifs : List Expr} {scope : Scope} {own : List (Str × Nat)} {pos spos : Pos} {mi : M (List D)} {ix : List Nat} {set : D → S} {t : M Bool} {me : M RV} (hc : X.calm = true) (hN : X.N.Nodup) (hy : X.N[i]? = some y) (hyl : X.env.scope.names.lookup y = some .local)
    (hsw : swapsWith (.ListComp elt [⟨tg, iter, ifs, 0⟩] scope pos) (some (.Name y py)) spos.line X.env = pure true) (hi : DI X W lo tg iter mi) (ok : BlkOk X.N X.env.scope scope own)
    (hg : ∀ (s : Shared) (H : Hp) (C : Addr) (cl : List (Str × Addr)) (fp : List Addr), DG (X.blk s H scope (compEnvC scope cl C X.env) fp) lo tg ix set) (ht : ∀ (s : Shared) (H : Hp) (C : Addr) (cl : List (Str × Addr)) (fp : List Addr), DTs (X.blk s H scope (compEnvC scope cl C X.env) fp) W0 ifs t)
    (he : ∀ (s : Shared) (H : Hp) (C : Addr) (cl : List (Str × Addr)) (fp : List Addr), DE (X.blk s H scope (compEnvC scope cl C X.env) fp) W0 elt me) (hix : ∀ j ∈ ix, j ∈ own.map (·.2)) (hs : ∀ x, foldedSetIterable iter X.env x = pure x := by intro _; rfl) :
    DS X W (.Assign [.Name y py] (.ListComp elt [⟨tg, iter, ifs, 0⟩] scope pos) spos) (sSet i (mLc (own.map (·.2)) mi set t me)) :=
  ds_setG (ps_weak (ps_setLc (g := gD X.K lo ix set) (tt := tG (Cx.g X) W0 t rB) (te := tG (Cx.g X) W0 me (rV (Cx.g X))) hc hN hy hyl hsw hi ok hg ht he hs) fun D σ H h => lc_read hix h)
theorem serves_list {lo : Bool} {K : PySem.W.Frag} {B0 : Hp} {a : Addr} {xs : List V} {ds : List D} (h : SqL K B0 a xs) (d : DqAll K B0 xs ds) : Serves K lo (Itl K a) B0 ds := by
  refine ⟨fun H s => ⟨xs, s.seq h, by rw [d.length]; exact Nat.le_refl _⟩, fun i H hi s => ?_, fun i H x H' e he s y B b1 b2 => ?_⟩
  · rw [← d.length] at hi
    exact ⟨xs, xs[i], s.seq h, List.getElem?_eq_getElem hi⟩
  · obtain ⟨rfl, y⟩ := y
    obtain ⟨v, h1, h2⟩ := d.get he
    have := y xs (s.seq h)
    rw [h1] at this; cases this
    exact .inl ⟨rfl, dp_same b1 h2⟩
theorem serves_tup {lo : Bool} {K : PySem.W.Frag} {B0 : Hp} {a : Addr} {xs : List V} {ds : List D} (h : SqT K B0 a xs) (d : DqAll K B0 xs ds) : Serves K lo (Itt K a) B0 ds := by
  refine ⟨fun H s => ⟨xs, sqt_same s h, by rw [d.length]; exact Nat.le_refl _⟩, fun i H hi s => ?_, fun i H x H' e he s y B b1 b2 => ?_⟩
  · rw [← d.length] at hi
    exact ⟨xs, xs[i], sqt_same s h, List.getElem?_eq_getElem hi⟩
  · obtain ⟨rfl, y⟩ := y
    obtain ⟨v, h1, h2⟩ := d.get he
    have := y xs (sqt_same s h)
    rw [h1] at this; cases this
    exact .inl ⟨rfl, dp_same b1 h2⟩
theorem serves_range {lb : Bool} {K : PySem.W.Frag} {B0 : Hp} {lo hi : Int} : Serves K lb (Itr lo (hi - lo).toNat) B0 (rng lo hi) := by
  have hl : (rng lo hi).length = (hi - lo).toNat := by simp [rng]
  refine ⟨fun H s => by show (hi - lo).toNat ≤ _; rw [hl]; exact Nat.le_refl _, fun i H h s => by rw [hl] at h; exact h, fun i H x H' e he s y B b1 b2 => ?_⟩
  obtain ⟨rfl, rfl⟩ := y
  have hi' : i < (hi - lo).toNat := by
    rw [← hl]; exact (List.getElem?_eq_some_iff.mp he).1
  have : e = .int (lo + i) := by
    simp only [rng, List.getElem?_map, List.getElem?_range hi', Option.map_some, Option.some.injEq] at he
    exact he.symm
  subst this
  exact .inl ⟨rfl, .int _⟩
/-- a list or a tuple -/
theorem pi_seq {tg l : Expr} {tl : TE} (hl : PE X l tl) : PI X tg l (fun σ H R => tl σ H fun x H1 => (∃ a, x = .ref a ∧ (∃ xs, SqL X.K H1 a xs) ∧ R (Itl X.K a) H1) ∨ ∃ a, x = .ref a ∧ (∃ xs, SqT X.K H1 a xs) ∧ R (Itt X.K a) H1) := by
  refine ⟨fun pins s σ H R I h => ?_⟩
  refine thn (hl.run pins s σ H _ I h) fun v s1 ⟨x, H1, I1, r1, q1⟩ => ?_
  rcases q1 with ⟨a, e, ⟨xs, hq⟩, q⟩ | ⟨a, e, ⟨xs, hq⟩, q⟩
  · subst e
    cases r1
    obtain ⟨its, rv, p, hz⟩ := I1.list hq
    refine wpAny_pyIter_list p.isList ?_
    refine ⟨s1.heap.objs.size, [s1.heap.objs.size], _, _, H1, rfl, I1.kept (t' := s1.toks) fun b o e => Heap.get?_push_of_some _ e, turn_list a _, ⟨_, Heap.get?_push_size _ rfl, rfl, rfl⟩, fun b hb => ?_, q⟩
    have e : b = s1.heap.objs.size := by simpa using hb
    subst e
    exact I1.fpOk (Nat.le_refl _) (I1.hok.fresh (Nat.le_refl _))
  · subst e
    cases r1
    obtain ⟨its, rv, p, hz⟩ := I1.tuple hq
    refine wpAny_pyIter_tuple (show s1.heap.IsTuple a its.toArray from p) ?_
    refine ⟨s1.heap.objs.size, [s1.heap.objs.size], _, _, H1, rfl, I1.kept (t' := s1.toks) fun b o e => Heap.get?_push_of_some _ e, turn_tuple a _, ⟨_, Heap.get?_push_size _ rfl, rfl, rfl⟩, fun b hb => ?_, q⟩
    have e : b = s1.heap.objs.size := by simpa using hb
    subst e
    exact I1.fpOk (Nat.le_refl _) (I1.hok.fresh (Nat.le_refl _))
theorem di_seq {lo : Bool} {tg e : Expr} {m : M RV} (h : DE X W e m) : DI X W lo tg e (mRow m) := pi_weak (pi_seq h) fun σ H R ⟨B, r, O, h⟩ => by
  refine tG.of (At.froz ((h.bind later_rI (R := rD (Cx.g X))).mono ?_))
  rintro v H1 ⟨d, B1, r1, O1, s1, dp, h1⟩
  have dp : Dq X.K B1 v d := dp
  obtain ⟨c, o, r', e, p⟩ := h1
  cases q : rowOf d with
  | none => rw [q] at e; cases e
  | some ds =>
    rw [q] at e
    cases e
    rcases row_of q with rfl | rfl
    · obtain ⟨a, xs, rfl, hs, ha⟩ := dp_list dp
      exact .inl ⟨a, rfl, ⟨xs, .of (c.sub _ _ hs)⟩, p B1 H1 O1 _ .refl c .refl (serves_list (.of hs) ha)⟩
    · obtain ⟨a, xs, rfl, hs, ha⟩ := dp_tuple dp
      exact .inr ⟨a, rfl, ⟨xs, (tup_same c.sub hs).sq⟩, p B1 H1 O1 _ .refl c .refl (serves_tup hs.sq ha)⟩
end
end DL
end

section
namespace DL
open PySem PySem.Spec PyProof.Rows L2
section
variable {K : PySem.W.Frag} {mg : Str → Option Value} {B H B' H' : Hp} {xs : List Rs} {vs : List V} {O O' : Addr → Prop}
theorem start_get {N : List Str} {k : Nat} (h : k < vs.length) : (start N vs)[k]? = (vs.map some)[k]? := by
  unfold L2.start
  rw [List.getElem?_append_left (by simpa using h)]
theorem pad_get {r : Ro} {m k : Nat} {x : Sl} (h : (r ++ List.replicate m Sl.non)[k]? = some x) (n : x ≠ .non) : r[k]? = some x := by
  by_cases hk : k < r.length
  · rw [List.getElem?_append_left hk] at h; exact h
  · rw [List.getElem?_append_right (by omega), List.getElem?_replicate] at h
    split at h
    · cases h; exact absurd rfl n
    · cases h
theorem Con.pad {N : List Str} (c : Con K B H (vs.map some) (xs.map toSl) O) (hN : vs.length ≤ N.length) : Con K B H (start N vs) (xs.map toSl ++ List.replicate (N.length - vs.length) .non) O := by
  have hl : xs.length = vs.length := by have := c.len; simpa using this
  have hs : ∀ (k : Nat) (x : Sl), x ≠ .non → (xs.map toSl ++ List.replicate (N.length - vs.length) Sl.non)[k]? = some x → (xs.map toSl)[k]? = some x ∧ (start N vs)[k]? = (vs.map some)[k]? := fun k x n e => by
    have e' := pad_get e n
    refine ⟨e', start_get ?_⟩
    have := (List.getElem?_eq_some_iff.mp e').1
    rw [List.length_map] at this
    omega
  refine ⟨⟨c.sub, c.off, c.liv, ?_, fun i b d e => ?_, fun i b ct e => ?_, fun i j b c1 b' c2 l l' F F' ne e1 e2 s1 s2 o1 o2 => ?_⟩, fun i j k h => ?_⟩
  · unfold L2.start
    simp [hl]
  · obtain ⟨e', q⟩ := hs i _ (by simp) e
    rw [q]
    exact c.frz i b d e'
  · obtain ⟨e', q⟩ := hs i _ (by simp) e
    rw [q]
    exact c.own i b ct e'
  · obtain ⟨e1', q1⟩ := hs i _ (by simp) e1
    obtain ⟨e2', q2⟩ := hs j _ (by simp) e2
    rw [q1] at s1
    rw [q2] at s2
    exact c.sep i j b c1 b' c2 l l' F F' ne e1' e2' s1 s2 o1 o2
  · obtain ⟨h', _⟩ := hs i _ (by simp) h
    rw [List.getElem?_map] at h'
    cases q : xs[i]? with
    | none => rw [q] at h'; cases h'
    | some x => rw [q] at h'; cases x <;> cases h'
theorem outs_len : ∀ {xs : List Rs} {k : Nat} {r : Ro}, (outs xs k r).length = xs.length
  | [], _, _ => rfl
  | .fz _ :: xs, k, r => by simp [outs, outs_len]
  | .ow _ :: xs, k, r => by simp [outs, outs_len]
theorem outs_get {r : Ro} {c : Ct} : ∀ {xs : List Rs} {k j : Nat}, xs[j]? = some (Rs.ow c) → (outs xs k r)[j]? = some (match r[k + j]? with
      | some (.own _ c') => .ow c'
      | some (.frz _ d) => .fz d
      | _ => .ow c)
  | [], _, _, h => by simp at h
  | x :: xs, k, 0, h => by
    simp at h
    subst h
    simp only [outs, Nat.add_zero, List.getElem?_cons_zero]
    try rfl
  | x :: xs, k, j + 1, h => by
    have ih := outs_get (r := r) (c := c) (xs := xs) (k := k + 1) (j := j) (by simpa using h)
    rw [show k + 1 + j = k + (j + 1) by omega] at ih
    cases x <;> simpa only [outs, List.getElem?_cons_succ] using ih
/-- the arguments behind a def's body -/
theorem exit_con {σ0 σ' : L2.St} {r' : Ro} {m : Nat} (c : Con K B H (vs.map some) (xs.map toSl) O) (sB : Same B B') (h0 : ∀ k, k < vs.length → σ0[k]? = (vs.map some)[k]?) (c' : Con K B' H' σ' r' O') (b : Bor (xs.map toSl ++ List.replicate m .non) σ0 r' σ') :
    Con K B' H' (vs.map some) (List.zipWith exitSl xs (outs xs 0 r')) O' := by
  have hl : xs.length = vs.length := by have := c.len; simpa using this
  -- what stands at each place
  have at_ : ∀ (k : Nat) (x : Sl), (List.zipWith exitSl xs (outs xs 0 r'))[k]? = some x → (∃ d, x = .frz false d ∧ (xs.map toSl)[k]? = some (.frz false d)) ∨ (r'[k]? = some x ∧ σ'[k]? = (vs.map some)[k]?) := by
    intro k x e
    rw [List.getElem?_zipWith] at e
    cases q : xs[k]? with
    | none => rw [q] at e; cases e
    | some y =>
      rw [q] at e
      have hk : k < xs.length := (List.getElem?_eq_some_iff.mp q).1
      cases y with
      | fz d =>
        cases q2 : (outs xs 0 r')[k]? with
        | none => rw [q2] at e; cases e
        | some z =>
          rw [q2] at e
          cases e
          exact .inl ⟨d, rfl, by rw [List.getElem?_map, q]; rfl⟩
      | ow ct =>
        rw [outs_get (c := ct) q, Nat.zero_add] at e
        have hr : (xs.map toSl ++ List.replicate m Sl.non)[k]? = some (Sl.own true ct) := by
          rw [List.getElem?_append_left (by simpa using hk), List.getElem?_map, q]; rfl
        obtain ⟨⟨y, h1, h2⟩, h3⟩ := b k _ hr rfl
        refine .inr ⟨?_, by rw [h3]; exact h0 k (by omega)⟩
        rw [h1] at e ⊢
        cases y with
        | non => cases h2
        | al _ _ => cases h2
        | frz b2 d =>
          have h2 : b2 = true := h2
          subst h2
          exact e
        | own b2 c2 =>
          have h2 : b2 = true := h2
          subst h2
          exact e
  refine ⟨⟨c'.sub, c'.off, c'.liv, by rw [List.length_zipWith, outs_len, Nat.min_self, hl, List.length_map], fun i b d e => ?_, fun i b ct e => ?_, fun i j b c1 b' c2 l l' F F' ne e1 e2 s1 s2 o1 o2 => ?_⟩, fun i j k h => ?_⟩
  · rcases at_ i _ e with ⟨d', h1, h2⟩ | ⟨h1, h2⟩
    · cases h1
      obtain ⟨v, g1, g2⟩ := c.frz i false d h2
      exact ⟨v, g1, dp_same sB g2⟩
    · rw [← h2]
      exact c'.frz i b d h1
  · rcases at_ i _ e with ⟨d', h1, h2⟩ | ⟨h1, h2⟩
    · cases h1
    · rw [← h2]
      exact c'.own i b ct h1
  · rcases at_ i _ e1 with ⟨d', h1, h2⟩ | ⟨h1, h2⟩
    · cases h1
    · rcases at_ j _ e2 with ⟨d', h3, h4⟩ | ⟨h3, h4⟩
      · cases h3
      · rw [← h2] at s1
        rw [← h4] at s2
        exact c'.sep i j b c1 b' c2 l l' F F' ne h1 h3 s1 s2 o1 o2
  · rw [List.getElem?_zipWith] at h
    cases q : xs[i]? with
    | none => rw [q] at h; cases h
    | some x =>
      cases q2 : (outs xs 0 r')[i]? with
      | none => rw [q, q2] at h; cases h
      | some y => rw [q, q2] at h; cases x <;> first | cases h | (cases y <;> cases h)
/-- a def's body read from its promise -/
theorem def_read {N : List Str} {n : Nat} {body : S} {Q : VK} {E : XK} (hn : n ≤ N.length) (h : spD K mg (defSem n N.length body) n vs H Q E) :
    tS ⟨K, mg⟩ (fun c d _ H => E c d H) body { nx := fun _ H' => Q .non H', rt := Q } (start N vs) H := by
  obtain ⟨hv, B, O, xs, c, o, ys, e, hy, p⟩ := h
  have hl : xs.length = vs.length := by have := c.len; simpa using this
  unfold defSem at e
  rw [if_pos (by omega)] at e
  have cp := c.pad (N := N) (by omega)
  rw [hv] at cp
  have ex : ∀ {B' H' O' σ' r'}, Same B B' → Con K B' H' σ' r' O' → Bor (xs.map toSl ++ List.replicate (N.length - n) .non) (start N vs) r' σ' → Con K B' H' (vs.map some) (List.zipWith exitSl xs (outs xs 0 r')) O' :=
    fun sB c' b => exit_con c sB (fun k hk => start_get hk) c' b
  by_cases hz : allFz xs = true
  · -- nothing was lent
    have noOwn : ∀ (ys : List Rs), allFz ys = true → ∀ (m i : Nat) b ct, (ys.map toSl ++ List.replicate m Sl.non)[i]? = some (Sl.own b ct) → False := by
      intro ys
      induction ys with
      | nil =>
        intro _ m i b ct h
        simp [List.getElem?_replicate] at h
      | cons y ys ih =>
        intro h m i b ct h2
        cases y with
        | fz d =>
          cases i with
          | zero => cases h2
          | succ i => exact ih h m i b ct (by simpa using h2)
        | ow c => cases h
    have cp0 := cp.shrink (O' := fun _ => False) (fun _ h => h.elim) fun i b ct l F e _ _ => (noOwn xs hz _ i b ct e).elim
    have up : ∀ {B' H' : Hp} {O' : Addr → Prop}, Step B H (fun _ => False) B' H' O' → Step B H O B' H' O' := fun s => ⟨s.sB, fun a o h _ => s.keep a o h (fun z => z), s.live, fun a h _ => s.nB a h (fun z => z), fun a h => (s.nO a h).elim (fun z => z.elim) .inr⟩
    refine ⟨B, _, _, cp0, ?_⟩
    cases q : body (xs.map toSl ++ List.replicate (N.length - n) .non) with
    | none => rw [q] at e; cases e
    | some z =>
      obtain ⟨so, r'⟩ := z
      rw [q] at e
      refine ⟨so, r', rfl, ?_⟩
      cases so with
      | nx =>
        cases e
        exact fun B' H' O' σ' s c' b => p B' H' O' .non (up s) (ex s.sB c' b) .non
      | ret v =>
        cases e
        exact fun B' H' O' σ' x s c' b rv => p B' H' O' x (up s) (ex s.sB c' b) rv
      | rets i =>
        simp only [handOn] at e
        split at e
        · rename_i c q2
          rw [if_pos hz] at e
          cases e
          intro B' H' O' σ' x s c' b hx
          obtain ⟨l, F, h1, h2, h3⟩ := c'.own i _ _ q2
          rw [hx] at h1
          cases h1
          have c2 := c'.release q2 hx h2
          have b2 : Bor (xs.map toSl ++ List.replicate (N.length - n) .non) (start N vs) (r'.set i .non) σ' := b.trans (bor_set q2 fun z => by cases z)
          refine p B' H' (fun a => O' a ∧ a ∉ F) _ ⟨s.sB, fun a o h _ => s.keep a o h (fun z => z), s.live, fun a h _ => s.nB a h (fun z => z), fun a h => (s.nO a h.1).elim (fun z => z.elim) .inr⟩ (ex s.sB c2 b2) ⟨l, F, rfl, h2, fun a ha => ⟨?_, c'.off a (h3 a ha), fun z => z.2 ha⟩⟩
          exact (s.nO a (h3 a ha)).elim (fun z => z.elim) (fun z => z)
        · cases e
      | exc x =>
        cases e
        exact fun B' H' O' σ' k dx s c' b rx => p B' H' O' k dx (up s) (ex s.sB c' b) rx
      | brk => cases e
      | cnt => cases e
  refine ⟨B, _, O, cp, ?_⟩
  cases q : body (xs.map toSl ++ List.replicate (N.length - n) .non) with
  | none => rw [q] at e; cases e
  | some z =>
    obtain ⟨so, r'⟩ := z
    rw [q] at e
    refine ⟨so, r', rfl, ?_⟩
    cases so with
    | nx =>
      cases e
      exact fun B' H' O' σ' s c' b => p B' H' O' .non s (ex s.sB c' b) .non
    | ret v =>
      cases e
      exact fun B' H' O' σ' x s c' b rv => p B' H' O' x s (ex s.sB c' b) rv
    | rets i =>
      simp only [handOn] at e
      split at e
      · rw [if_neg hz] at e
        cases e
      · cases e
    | exc x =>
      cases e
      exact fun B' H' O' σ' k dx s c' b rx => p B' H' O' k dx s (ex s.sB c' b) rx
    | brk => cases e
    | cnt => cases e
end
/-- a def keeps its promise by its body's meaning -/
theorem def_ok {P : Program} {w : World} {K : PySem.W.Frag} {mg : Str → Option Value} {base : Heap} {x qual : Str} {st : Stmt} {f : Addr} {fd : FuncData} {N ps : List Str} {k : Nat} {body : S} (F : Fun K x qual st f fd) (Sc : FnScope N ps (defScope st)) (hn : ps.length ≤ N.length)
    (hb : ∀ (cdv : Value) (A : Around) (outer : List Env) (s : Shared) (H : Hp) (E : XK), Room k (A.deeper (envOfC qual (defScope st) s.heap.objs.size f cdv)) →
      L2N.Takes (cxOf (L2N.CX P w) P w K mg base N qual (defScope st) f cdv A outer s H E) (fun c d _ H => E c d H) →
      DSs (cxOf (L2N.CX P w) P w K mg base N qual (defScope st) f cdv A outer s H E) (fun c d _ H => E c d H) (defBody st) body) :
    FnOk P w K mg base (L2N.CX P w) (k + 1) f fd ps (spD K mg (defSem ps.length N.length body) ps.length) := by
  obtain ⟨oc, od, kV, doc, pm, an, cdv, ct, osl, rfl, lk, hcd⟩ := F.ex
  exact fn_of lk hcd Sc (fun vs H Q E h => h.1) fun A outer s H vs Q E hr h => ⟨_, hb cdv A outer s H E hr (L2N.takes_of rfl rfl rfl rfl), def_read hn h⟩
end DL
end

section
namespace DL
open PySem
/-- the list in slot i (or looked at by it) is changed -/
def updSl (r : Ro) (i : Nat) (ds : List D) : Ro := match r[i]? with
  | some (.own b _) => r.set i (.own b (.lst ds))
  | some (.al j k) => match r[j]? with
    | some (.own b (.ll rows)) => r.set j (.own b (.ll (rows.set k ds)))
    | _ => r
  | _ => r
def listAt (r : Ro) (i : Nat) : Option (List D) := match look2 r (.slot i) with
  | some (.ow (.lst ds)) => some ds
  | _ => none
/-- x.m(..) that changes the list x -/
def mMut (g : List D → List D → Option (List D × D)) (i : Nat) (ms : List (M AV)) : M RV := fun r => match listAt r i with
  | none => none
  | some _ => (oL ms).bind (fun as => fun r => match listAt r i, looks2 r as with
    | some ds, some xs => match dataAll xs with
      | some es => (g ds es).map fun p => (.ok (.val p.2), updSl r i p.1)
      | none => none
    | _, _ => none) r
def gAppend : List D → List D → Option (List D × D)
  | ds, [d] => if ds.length < lineD then some (ds ++ [d], .none) else none
  | _, _ => none
def gInsert : List D → List D → Option (List D × D)
  | ds, [.int i, d] => if ds.length < lineD ∧ 0 ≤ i ∧ i < 2 ^ 63 then some (ds.take i.toNat ++ [d] ++ ds.drop i.toNat, .none) else none
  | _, _ => none
/-- x[i] = e of a list -/
def sSub (i : Nat) (me : M RV) (mi : M AV) : S := sEx (mFz me) fun d => fun r => match listAt r i with
  | none => none
  | some _ => sEx mi (fun a => fun r => match listAt r i, (look2 r a).bind Rs.data with
    | some ds, some (.int n) => (ixD ds.length n).map fun k => (.nx, updSl r i (ds.set k d))
    | _, _ => none) r
/-- x = rows[e], a look into a list of lists -/
def sAl (i j : Nat) (mi : M AV) : S := fun r => match r[j]? with
  | some (.own _ (.ll _)) => sEx mi (fun a => fun r => match r[j]?, (look2 r a).bind Rs.data, r[i]? with
    | some (.own _ (.ll rows)), some (.int n), some x => if i ≠ j ∧ putSl.pinnedB x = false then (ixD rows.length n).map fun k => (.nx, r.set i (.al j k)) else none
    | _, _, _ => none) r
  | _ => none
/-- a, b = e, f -/
def sPar (i j : Nat) (m n : M RV) : S := sEx (mFz m) fun d => sEx (mFz n) fun e => sSeq (putSl i (.val d)) (putSl j (.val e))
/-- a, b = e -/
def sUnp (m : M RV) (set : D → S) : S := sEx (mFz m) set
/-- comprehensions of new lists -/
def lcL (vs : List Nat) (set : D → S) (t : M Bool) (e : M RV) : List D → List (List D) → Ro → Option (List (List D) × Ro)
  | [], acc, r => some (acc, r)
  | d :: ds, acc, r => match set d r with
    | some (.nx, r1) => match t r1 with
      | some (.ok true, r2) => match e r2 with
        | some (.ok (.new (.lst x)), r3) => if acc.length < lineD then lcL vs set t e ds (acc ++ [x]) (wipeR r3 vs) else none
        | _ => none
      | some (.ok false, r2) => lcL vs set t e ds acc (wipeR r2 vs)
      | _ => none
    | _ => none
def mLcL (vs : List Nat) (mi : M (List D)) (set : D → S) (t : M Bool) (e : M RV) : M RV := mi.bind fun ds => fun r =>
  if anyPin r vs then none else (lcL vs set t e ds [] (wipeR r vs)).map fun p => (.ok (.new (.ll p.1)), p.2)
/-- x[lo:hi] -/
def sIxD (n d : Nat) : Option Int → Nat
  | none => d
  | some v => if v < 0 then (v + n).toNat else min v.toNat n
def cutD {α : Type} (xs : List α) (lo hi : Option Int) : List α := (xs.drop (sIxD xs.length 0 lo)).take (sIxD xs.length xs.length hi - sIxD xs.length 0 lo)
def scrL : List (D × D) → Option (List Int)
  | [] => some []
  | (.int n, .none) :: r => (scrL r).map (n :: ·)
  | _ => none
/-- the law's script: a dict here, marked by its first entry -/
def scrOf : List (D × D) → Option (List Int)
  | (.none, .none) :: r => scrL r
  | _ => none
def gCut (lo hi : Option Int) : Rs → Option RV := fun a => match a.data with
  | some (.list xs) => some (.new (.lst (cutD xs lo hi)))
  | some (.tuple xs) => some (.val (.tuple (cutD xs lo hi)))
  | some (.dict kvs) => (scrOf kvs).map fun ns => .new (.lst ((cutD ns lo hi).map .int))
  | _ => none
/-- a bound -/
def mBd : Option (M AV) → M (Option Int)
  | none => M.ret none
  | some m => m.bind fun a => fun r => match (look2 r a).bind Rs.data with
    | some (.int n) => some (.ok (some n), r)
    | _ => none
def mSl (m : M AV) (lo hi : Option (M AV)) : M RV := m.bind fun a => (mBd lo).bind fun l => (mBd hi).bind fun h => fun r => ((look2 r a).bind (gCut l h)).map fun v => (.ok v, r)
end DL
end

section
namespace DL
open PySem PySem.Spec PyProof.Rows L2
theorem listAt_look {r : Ro} {i : Nat} {ds : List D} (h : listAt r i = some ds) : look2 r (.slot i) = some (.ow (.lst ds)) := by
  unfold listAt at h
  split at h
  · rename_i es q; cases h; exact q
  · cases h
section
variable {K : PySem.W.Frag} {B H : Hp} {σ : L2.St} {r : Ro} {O : Addr → Prop}
theorem rows_set {a : Addr} {xs' : List V} {ds' : List D} : ∀ {as : List Addr} {rows : List (List D)} {k : Nat}, RowsAt K B H as rows → as[k]? = some a → as.Nodup → DqAll K B xs' ds' → RowsAt K B (upd H a (.lst xs')) as (rows.set k ds')
  | _, _, _, .nil, _, _, _ => .nil
  | x :: xs, y :: ys, 0, .cons hx t, g, nd, d => by
    simp at g
    subst g
    exact .cons ⟨xs', upd_same, d⟩ (rowsAt_same (Same.refl _) t fun z hz => upd_ne fun e => (List.nodup_cons.mp nd).1 (e ▸ hz))
  | x :: xs, y :: ys, k + 1, .cons hx t, g, nd, d => by
    have g' : xs[k]? = some a := by simpa using g
    have nx : x ≠ a := fun e => (List.nodup_cons.mp nd).1 (e ▸ List.mem_of_getElem? g')
    refine .cons ?_ (rows_set t g' (List.nodup_cons.mp nd).2 d)
    obtain ⟨ws, w1, w2⟩ := hx
    exact ⟨ws, by rw [upd_ne nx]; exact w1, w2⟩
theorem bor_same {i : Nat} {x y : Sl} (h : r[i]? = some x) (hp : pinned x = true → pinned y = true) : Bor r σ (r.set i y) σ := bor_set h hp
/-- the list that slot i tells of, and what a change of it does -/
theorem Con.mut (c : Con K B H σ r O) {i : Nat} {ds : List D} (h : listAt r i = some ds) : ∃ l xs, σ[i]? = some (some (V.ref l)) ∧ H l = some (.lst xs) ∧ DqAll K B xs ds ∧
    ∀ xs' ds', DqAll K B xs' ds' → Con K B (upd H l (.lst xs')) σ (updSl r i ds') O ∧ Step B H O B (upd H l (.lst xs')) O ∧ Bor r σ (updSl r i ds') σ := by
  have h := listAt_look h
  have live : ∀ (l : Addr) o, ∀ a, H a ≠ none → upd H l o a ≠ none := fun l o a ha => by
    by_cases e : a = l
    · subst e; rw [upd_same]; simp
    · rw [upd_ne e]; exact ha
  simp only [look2] at h
  split at h
  · cases h
  · rename_i b ct q
    cases h
    obtain ⟨l, F, h1, o, h3⟩ := c.own i b _ q
    obtain ⟨rfl, xs, h4, h5⟩ := id o
    refine ⟨l, xs, h1, h4, h5, fun xs' ds' d => ?_⟩
    obtain ⟨c1, s1⟩ := c.change (ct' := .lst ds') (F' := [l]) (H' := upd H l (.lst xs')) q h1 o (fun a ha => upd_ne (by simpa using ha)) ⟨rfl, xs', upd_same, d⟩ (fun a ha => ha) (live l _) (fun rows e => by cases e)
    have e : updSl r i ds' = r.set i (.own b (.lst ds')) := by unfold updSl; rw [q]
    rw [e]
    exact ⟨c1, s1, bor_same q fun z => z⟩
  · rename_i j k q
    split at h
    · rename_i b rows q2
      cases q3 : rows[k]? with
      | none => rw [q3] at h; cases h
      | some es =>
        rw [q3] at h
        cases h
        obtain ⟨L, F, h1, o, h3⟩ := c.own j b _ q2
        obtain ⟨as, rfl, h2, nd, ra⟩ := id o
        obtain ⟨a, g1, g2⟩ := c.al i j k q b rows L as q2 h1 h2
        obtain ⟨a', g3, vs, g4, g5⟩ := paired_at ra q3
        rw [g1] at g3; cases g3
        have hm : a ∈ as := List.mem_of_getElem? g1
        have nL : L ≠ a := fun e => (List.nodup_cons.mp nd).1 (e ▸ hm)
        refine ⟨a, vs, g2, g4, g5, fun xs' ds' d => ?_⟩
        have ra' := rows_set (xs' := xs') ra g1 (List.nodup_cons.mp nd).2 d
        obtain ⟨c1, s1⟩ := c.change (ct' := .ll (rows.set k ds')) (F' := L :: as) (H' := upd H a (.lst xs')) q2 h1 o (fun x hx => upd_ne fun e => hx (by rw [e]; simp [hm]))
          ⟨as, rfl, by rw [upd_ne nL]; exact h2, nd, ra'⟩ (fun a ha => ha) (live a _) (fun rows' e => .inr ⟨upd_ne nL, rows, rfl⟩)
        have e : updSl r i ds' = r.set j (.own b (.ll (rows.set k ds'))) := by unfold updSl; rw [q]; simp only [q2]
        rw [e]
        exact ⟨c1, s1, bor_same q2 fun z => z⟩
    · cases h
  · cases h
end
/-- a method that changes its list, by values -/
def MutD (X : Cx) (id : String) (g : List D → List D → Option (List D × D)) : Prop :=
  MtR X id fun x vs H Q => ∃ B l xs ds es ds' d, Same B H ∧ x = .ref l ∧ H l = some (.lst xs) ∧ DqAll X.K B xs ds ∧ DqAll X.K B vs es ∧ g ds es = some (ds', d) ∧ ∀ xs' v, DqAll X.K B xs' ds' → Dq X.K B v d → Q v (upd H l (.lst xs'))
section
variable {X : Cx} {W : WX}
theorem mut_run {g : List D → List D → Option (List D × D)} {i : Nat} {as : List AV} {B : Hp} {r : Ro} {O : Addr → Prop} {σ : L2.St} {H : Hp} {vs : List V} {Q : VK} {l0 : Addr} (hs : σ[i]? = some (some (V.ref l0)))
    (h : At (Cx.g X) W (fun r => match listAt r i, looks2 r as with
    | some ds, some xs => match dataAll xs with
      | some es => (g ds es).map fun p => (.ok (.val p.2), updSl r i p.1)
      | none => none
    | _, _ => none) (rV (Cx.g X)) B r O σ H Q) (x : Paired (AvR X.K B σ) as vs) :
    ∃ B l xs ds es ds' d, Same B H ∧ V.ref l0 = .ref l ∧ H l = some (.lst xs) ∧ DqAll X.K B xs ds ∧ DqAll X.K B vs es ∧ g ds es = some (ds', d) ∧ ∀ xs' v, DqAll X.K B xs' ds' → Dq X.K B v d → Q v (upd H l (.lst xs')) := by
  obtain ⟨c, o, r', e, p⟩ := h
  simp only at e
  split at e
  · rename_i ds xs q1 q2
    split at e
    · rename_i es q3
      cases q4 : g ds es with
      | none => rw [q4] at e; cases e
      | some z =>
        obtain ⟨ds', d⟩ := z
        rw [q4] at e
        cases e
        obtain ⟨l, ys, h1, h2, h3, h4⟩ := c.mut q1
        rw [hs] at h1; cases h1
        refine ⟨B, _, ys, ds, es, ds', d, c.sub, rfl, h2, h3, dataAll_of q3 (c.looks2_ q2 x), q4, fun xs' v dx dv => ?_⟩
        obtain ⟨c1, s1, b1⟩ := h4 xs' ds' dx
        exact p B _ O v s1 c1 b1 dv
    · cases e
  · cases e
/-- x.m(e, ..) -/
theorem de_mut {name : Str} {id : String} {x e : Expr} {es : List Expr} {apos cpos : Pos} {g : List D → List D → Option (List D × D)} {i : Nat} {ms : List (M AV)} (pa : PlainAttrs "list") (slot : Slot "list" name id) (hty : typeOf (.builtin id) = pure (.type "method_descriptor"))
    (hm : MutD X id g) (ho : PE X x (tVar i)) (ha : DA X W (e :: es) (oL ms))
    (hbase : attributeBase x name X.env (eval x X.env) = eval x X.env := by rfl)
    (hfew : ((backTo cpos (starEach (e :: es) X.env)).all (fun x => !x.1) && (backToKw cpos (keywordEach [] X.env)).all (fun x => x.1.isSome)
      && decide ((e :: es).length + ([] : List Keyword).length + (if ([] : List Keyword).isEmpty then 0 else 1) < 30)) = true := by rfl)
    (hline : (apos.endLine == cpos.line) = true := by rfl) (hs : starEach (e :: es) X.env = (false, eval e X.env) :: starEach es X.env := by rfl) (hplain : (backTo cpos (starEach es X.env)).any (·.1) = false := by rfl) :
    DE X W (.Call (.Attribute x name apos) (e :: es) [] cpos) (mMut g i ms) := pe_weak (pe_bm pa slot hty hm ho ha hbase hfew hline hs hplain) fun σ H Q ⟨B, r, O, c, o, r', e, p⟩ => by
  unfold mMut at e
  split at e
  · cases e
  · rename_i ds q
    obtain ⟨l, ys, h1, h2, h3, h4⟩ := c.mut q
    refine ⟨.ref l, h1, .inl ⟨rfl, ys, .of h2⟩, tG.of ((At.bind (R := rL (Cx.g X)) ⟨c, o, r', e, p⟩ later_rV).mono ?_)⟩
    rintro vs H1 ⟨as, B1, r1, O1, s1, x1, h5⟩
    exact mut_run h1 h5 x1
theorem md_append : MutD X "list.append" gAppend := by
  intro pins s σ H x vs v us Q I rx rs h
  obtain ⟨B, l, xs, ds, es, ds', d, sb, rfl, hH, hd, he, hg, q⟩ := h
  unfold gAppend at hg
  split at hg
  · rename_i d0
    split at hg
    · rename_i hl
      cases hg
      cases he with
      | cons h1 t =>
        cases t
        exact mt_append pins s σ H _ _ v us Q I rx rs ⟨l, xs, _, rfl, rfl, hH, by rw [hd.length, ← line_eq]; exact hl, q _ _ (hd.append (.cons h1 .nil)) .non⟩
    · cases hg
  · cases hg
theorem md_insert : MutD X "list.insert" gInsert := by
  intro pins s σ H x vs v us Q I rx rs h
  obtain ⟨B, l, xs, ds, es, ds', d, sb, rfl, hH, hd, he, hg, q⟩ := h
  unfold gInsert at hg
  split at hg
  · rename_i i d0
    split at hg
    · rename_i hl
      cases hg
      cases he with
      | cons h1 t =>
        cases t with
        | cons h2 t =>
          cases t
          cases dp_int h1
          exact mt_insert pins s σ H _ _ v us Q I rx rs ⟨l, xs, i, _, rfl, rfl, hH, by rw [hd.length, ← line_eq]; exact hl.1, hl.2.1, hl.2.2, q _ _ (((hd.take _).append (.cons h2 .nil)).append (hd.drop _)) .non⟩
    · cases hg
  · cases hg
end
end DL
end

section
namespace DL
open PySem PySem.Spec PyProof.Rows L2
section
variable {X : Cx} {W : WX}
theorem AtS.exF {k : D → S} {m : M RV} {B : Hp} {r : Ro} {O : Addr → Prop} {σ : L2.St} {H : Hp} {D' : Ends} (h : AtS (Cx.g X) W (sEx (mFz m) k) B r O σ H D') :
    At (Cx.g X) W m (rV (Cx.g X)) B r O σ H fun y H1 => ∃ a B1 r1 O1, Step B H O B1 H1 O1 ∧ Bor r σ r1 σ ∧ Dq X.K B1 y a ∧ Con X.K B1 H1 σ r1 O1 ∧ ∃ o r', k a r1 = some (o, r') ∧ PostS (Cx.g X) W B r O σ H D' r' o :=
  At.froz (h.ex (R := rD (Cx.g X)))
/-- x[i] = e -/
theorem ds_sub {x e ie : Expr} {tpos pos : Pos} {i : Nat} {me : M RV} {mi : M AV} (ho : PE X x (tVar i)) (he : DE X W e me) (hi : DO X W ie mi)
    (ha : ∀ v, assign (.Subscript x ie tpos) X.env v = (do
      let ov ← holding [v] (eval x X.env)
      let iv ← holding [v, ov] (eval ie X.env)
      standAt tpos
      holding [v, ov, iv] (setItem ov iv v)
      release [v, ov, iv] []) := by intro _; rfl) (hs : swapsWithSole [.Subscript x ie tpos] e pos.line X.env = pure false := by rfl) (hw : swappedStores [.Subscript x ie tpos] e X.env = pure none := by rfl)
    (h1 : (assignEach [.Subscript x ie tpos] X.env).map (·.2) = [assign (.Subscript x ie tpos) X.env] := by rfl) : DS X W (.Assign [.Subscript x ie tpos] e pos) (sSub i me mi) :=
  ps_weak (ps_asg he (pg_sub ho hi set_list ha) hs hw h1) fun D σ H ⟨B, r, O, h⟩ => by
    refine tG.of (h.exF.mono ?_)
    rintro y H1 ⟨d, B1, r1, O1, s1, b1, x1, c1, o, r', e1, p⟩
    split at e1
    · cases e1
    · rename_i ds0 q0
      obtain ⟨l, xs0, g1, g2, g3, _⟩ := c1.mut q0
      refine ⟨.ref l, g1, ?_⟩
      -- the index
      have h2 : AtS (Cx.g X) W (sEx mi (fun a => fun r => match listAt r i, (look2 r a).bind Rs.data with
        | some ds, some (.int n) => (ixD ds.length n).map fun k => (.nx, updSl r i (ds.set k d))
        | _, _ => none)) B1 r1 O1 σ H1 D := AtS.after s1 c1 b1 e1 p
      refine tG.of ((h2.ex (R := rA (Cx.g X))).mono ?_)
      rintro z H2 ⟨a, B2, r2, O2, s2, b2, x2, c2, o2, r3, e2, p2⟩
      split at e2
      · rename_i ds n q1 q2
        cases q3 : ixD ds.length n with
        | none => rw [q3] at e2; cases e2
        | some k =>
          rw [q3] at e2
          cases e2
          obtain ⟨l', xs, k1, k2, k3, k4⟩ := c2.mut q1
          rw [g1] at k1; cases k1
          obtain ⟨rs, q4, q5⟩ := Option.bind_eq_some_iff.mp q2
          have rz : z = .int n := rs_int (c2.look2_ q4 x2) q5
          obtain ⟨c3, s3, b3⟩ := k4 (xs.set k y) (ds.set k d) (k3.set (dp_same s2.sB x1) k)
          exact ⟨l, xs, n, k, rfl, rz, k2, by rw [k3.length]; exact q3, p2 B2 _ O2 σ (s2.trans s3) c3 (b2.trans b3)⟩
      · cases e2
/-- x = rows[e] -/
theorem ds_al {x : Str} {re ie : Expr} {pos pos' spos : Pos} {i j : Nat} {mi : M AV} (hN : X.N.Nodup) (hi : X.N[i]? = some x) (hx : Loc X.env.scope x) (ho : PE X re (tVar j)) (he : DO X W ie mi) (hp : PlainIx ie)
    (hs : swapsWith (.Subscript re ie spos) (some (.Name x pos')) pos.line X.env = pure false := by rfl)
    (hf : X.fn x = true ∨ X.env.scope.names.lookup x = some .local := by first | exact .inl rfl | exact .inr rfl | assumption) : DS X W (.Assign [.Name x pos'] (.Subscript re ie spos) pos) (sAl i j mi) :=
  ps_weak (ps_set hN hi hx (pe_ix ix_list ho he hp) hs hf) fun D σ H ⟨B, r, O, c0, o, r', e, p⟩ => by
    have e0 := e
    unfold sAl at e
    split at e
    · rename_i b0 rows0 q0
      obtain ⟨l, F, h1, h2, h3⟩ := c0.own j b0 _ q0
      refine ⟨.ref l, h1, ?_⟩
      have h4 : AtS (Cx.g X) W (sEx mi (fun a => fun r => match r[j]?, (look2 r a).bind Rs.data, r[i]? with
        | some (.own _ (.ll rows)), some (.int n), some x => if i ≠ j ∧ putSl.pinnedB x = false then (ixD rows.length n).map fun k => (.nx, r.set i (.al j k)) else none
        | _, _, _ => none)) B r O σ H D := ⟨c0, o, r', e, p⟩
      refine tG.of ((h4.ex (R := rA (Cx.g X))).mono ?_)
      rintro z H2 ⟨a, B2, r2, O2, s2, b2, x2, c2, o2, r3, e2, p2⟩
      split at e2
      · rename_i b rows n y q1 q2 q3
        split at e2
        · rename_i hne
          cases q4 : ixD rows.length n with
          | none => rw [q4] at e2; cases e2
          | some k =>
            rw [q4] at e2
            cases e2
            obtain ⟨rs, q5, q6⟩ := Option.bind_eq_some_iff.mp q2
            have rz : z = .int n := rs_int (c2.look2_ q5 x2) q6
            obtain ⟨l', F', g1, ⟨as, rfl, g2, nd, ra⟩, g3⟩ := c2.own j b _ q1
            rw [h1] at g1; cases g1
            have hlen : as.length = rows.length := ra.length
            have hk : k < as.length := by
              rw [hlen]
              unfold ixD at q4
              split at q4
              · split at q4
                · cases q4; omega
                · cases q4
              · split at q4
                · cases q4; omega
                · cases q4
            have ga : as[k]? = some as[k] := List.getElem?_eq_getElem hk
            have hil : i < σ.length := by rw [← c2.len]; exact (List.getElem?_eq_some_iff.mp q3).1
            have c3 := c2.setAl (a := as[k]) hil q1 h1 g2 ga hne.1
            have bor : Bor r2 σ (r2.set i (.al j k)) (σ.set i (some (.ref as[k]))) := fun i2 w hw pw => by
              have hj : i2 ≠ i := fun e => by
                subst e
                rw [q3] at hw; cases hw
                have := hne.2
                cases y <;> simp_all [pinned, putSl.pinnedB]
              exact ⟨⟨w, by rw [List.getElem?_set_ne (Ne.symm hj)]; exact hw, pw⟩, List.getElem?_set_ne (Ne.symm hj)⟩
            refine ⟨l, as.map V.ref, n, .ref as[k], rfl, rz, .of g2, ?_, p2 B2 H2 O2 _ s2 c3 (b2.trans bor)⟩
            show (ixN (as.map V.ref).length n).bind _ = _
            rw [List.length_map, hlen, show ixN rows.length n = some k from q4]
            show (as.map V.ref)[k]? = _
            rw [List.getElem?_map, ga]
            rfl
        · cases e2
      · cases e2
    · cases e
/-- a, b = e, f -/
theorem ds_par {i j : Nat} {x y : Str} {a b : Expr} {px py pt pos : Pos} {kt k2 pt2} {m n : M RV} (hc : X.calm = true) (hN : X.N.Nodup) (hi : X.N[i]? = some x) (hj : X.N[j]? = some y) (hij : i ≠ j)
    (hx : X.env.scope.names.lookup x = some .local) (hy : X.env.scope.names.lookup y = some .local) (ha : DE X W a m) (hb : DE X W b n)
    (hw : swappedStores [.Tuple [.Name x px, .Name y py] kt pt] (.Tuple [a, b] k2 pt2) X.env = pure (some [x, y]))
    (hs : swapsWithSole [.Tuple [.Name x px, .Name y py] kt pt] (.Tuple [a, b] k2 pt2) pos.line X.env = pure false := by rfl)
    (h1 : starEach [a, b] X.env = (false, eval a X.env) :: starEach [b] X.env := by rfl) (h2 : starEach [b] X.env = (false, eval b X.env) :: starEach [] X.env := by rfl) :
    DS X W (.Assign [.Tuple [.Name x px, .Name y py] kt pt] (.Tuple [a, b] k2 pt2) pos) (sPar i j m n) :=
  ps_weak (L2.ps_par hc hN hi hj hij hx hy (pa_cons ha (pa_cons hb pa_nil h2) h1) hw hs) fun D σ H ⟨B, r, O, h⟩ => by
    refine tG.of (h.exF.mono ?_)
    rintro v H1 ⟨d, B1, r1, O1, s1, b1, x1, c1, o, r', e1, p⟩
    have hh : AtS (Cx.g X) W (sEx (mFz n) fun e => sSeq (putSl i (.val d)) (putSl j (.val e))) B1 r1 O1 σ H1 D := AtS.after s1 c1 b1 e1 p
    refine tG.of (hh.exF.mono ?_)
    rintro w H2 ⟨e, B2, r2, O2, s2, b2, x2, c2, o2, r3, e2, p2⟩
    refine ⟨v, w, rfl, ?_⟩
    unfold sSeq at e2
    cases q : putSl i (.val d) r2 with
    | none => rw [q] at e2; cases e2
    | some z =>
      obtain ⟨o3, r4⟩ := z
      obtain ⟨rfl, O3, c3, b3, h3⟩ := put_ok (H0 := H1) c2 q (show RvR X.K H1 B2 H2 O2 (.val d) v from dp_same s2.sB x1) s2.live
      rw [q] at e2
      obtain ⟨rfl, O4, c4, b4, h4⟩ := put_ok (H0 := H1) c3 e2 (show RvR X.K H1 B2 H2 O3 (.val e) w from x2) s2.live
      exact p2 B2 H2 O4 _ (put_step (put_step s2 h3) h4) c4 (b2.trans (b3.trans b4))
/-- a, b = e -/
theorem ds_unp {tg e : Expr} {pos : Pos} {m : M RV} {ix : List Nat} {set : D → S} (he : DE X W e m) (hg : DG X false tg ix set) (hso : ∀ d r o r', set d r = some (o, r') → o = .nx) (hs : swapsWithSole [tg] e pos.line X.env = pure false := by rfl) (hw : swappedStores [tg] e X.env = pure none := by rfl)
    (h1 : (assignEach [tg] X.env).map (·.2) = [assign tg X.env] := by rfl) : DS X W (.Assign [tg] e pos) (sUnp m set) := ps_weak (ps_asg he hg hs hw h1) fun D σ H ⟨B, r, O, h⟩ => by
  refine tG.of (h.exF.mono ?_)
  rintro v H1 ⟨d, B1, r1, O1, s1, b1, x1, c1, o, r', e1, p⟩
  have := hso _ _ _ _ e1
  subst this
  exact ⟨B1, r1, O1, d, r', c1, .inl x1, e1, fun σ' c2 b2 _ _ => p B1 H1 O1 σ' s1 c2 (b1.trans b2)⟩
theorem putSl_nx {i : Nat} {v : RV} {r r' : Ro} {o : SO} (e : putSl i v r = some (o, r')) : o = .nx := by
  unfold putSl at e
  split at e
  · cases e
  · split at e
    · cases e
    · cases v with
      | val d => cases e; rfl
      | new c =>
        cases c with
        | ll rows =>
          simp only at e
          split at e <;> cases e
          rfl
        | _ => cases e; rfl
theorem sets_nx : ∀ {fs : List (D → S)}, (∀ f ∈ fs, ∀ d r o r', f d r = some (o, r') → o = .nx) → ∀ {ds : List D} {r r' : Ro} {o : SO}, sets fs ds r = some (o, r') → o = .nx
  | [], _, [], _, _, _, e => by cases e; rfl
  | [], _, _ :: _, _, _, _, e => by cases e
  | _ :: _, _, [], _, _, _, e => by cases e
  | f :: fs, hf, d :: ds, r, r', o, e => by
    have e' : sSeq (f d) (sets fs ds) r = some (o, r') := e
    unfold sSeq at e'
    cases q : f d r with
    | none => rw [q] at e'; cases e'
    | some z =>
      obtain ⟨o1, r1⟩ := z
      have := hf f (by simp) d r o1 r1 q
      subst this
      rw [q] at e'
      exact sets_nx (fun g hg => hf g (by simp [hg])) e'
theorem setN_nx (i : Nat) : ∀ d r o r', setN i d r = some (o, r') → o = .nx := fun d r o r' e => putSl_nx e
theorem setT_nx {fs : List (D → S)} (hf : ∀ f ∈ fs, ∀ d r o r', f d r = some (o, r') → o = .nx) : ∀ d r o r', setT fs d r = some (o, r') → o = .nx := fun d r o r' e => by
  cases d with
  | tuple ds => exact sets_nx hf e
  | _ => cases e
end
end DL
end

section
namespace DL
open PySem PySem.Spec PyProof.Rows L2
section
variable {X : Cx} {W : WX}
theorem rowsAt_snoc {K : PySem.W.Frag} {B H : Hp} {l : Addr} {ds : List D} : ∀ {as : List Addr} {rows : List (List D)}, RowsAt K B H as rows → (∃ vs, H l = some (.lst vs) ∧ DqAll K B vs ds) → RowsAt K B H (as ++ [l]) (rows ++ [ds])
  | _, _, .nil, h => .cons h .nil
  | _, _, .cons a t, h => .cons a (rowsAt_snoc t h)
theorem lcL_read {lo : Bool} {mi : M (List D)} {vs ix : List Nat} {set : D → S} {t : M Bool} {me : M RV} (hix : ∀ j ∈ ix, j ∈ vs) {σ : L2.St} {H : Hp} {Q : VK} (h : tG (Cx.g X) W (mLcL vs mi set t me) (rV (Cx.g X)) σ H Q) :
    tLc (tG (Cx.g X) W mi (rI (Cx.g X) lo)) (gD X.K lo ix set) (tG (Cx.g X) W0 t rB) (tG (Cx.g X) W0 me (rV (Cx.g X))) vs σ H Q := by
  obtain ⟨B, r, O, h⟩ := h
  refine tG.of ((h.bind later_rV (R := rI (Cx.g X) lo)).mono ?_)
  rintro J H1 ⟨ds, B1, r1, O1, s1, x1, c1, o, r', e, p⟩
  intro D hD
  have sv : Serves X.K lo J B1 ds := x1
  simp only at e
  split at e
  · cases e
  · rename_i np
    have np : anyPin r1 vs = false := by simpa using np
    cases q : lcL vs set t me ds [] (wipeR r1 vs) with
    | none => rw [q] at e; cases e
    | some z =>
      obtain ⟨xs, rf⟩ := z
      rw [q] at e
      cases e
      obtain ⟨bD, nD, c2, s2⟩ := c1.lay (o := .lst []) hD
      have wl := wipe_length σ vs
      have wo : ∀ j : Nat, j ∉ vs → (wipe σ vs)[j]? = σ[j]? := fun j hj => wipe_out hj
      refine ⟨fun i m H' => m = ds.length - i ∧ i ≤ ds.length ∧ ∃ B' r2 O' acc ad, Step B1 H1 O1 B' H' O' ∧ Con X.K B' H' (wipe σ vs) r2 O' ∧ Clear r2 vs ∧ Bor r1 σ r2 (wipe σ vs) ∧ H' D = some (.lst (acc.map V.ref)) ∧ RowsAt X.K B' H' acc ad ∧ (D :: acc).Nodup ∧ (∀ a ∈ D :: acc, H1 a = none ∧ B' a = none ∧ ¬ O' a) ∧ lcL vs set t me (ds.drop i) ad r2 = some (xs, rf),
        ⟨ds.length, by simp, Nat.zero_le _, B1, _, O1, [], [], s2, c2.wiped wl wo, fun i hi x hx => wipeR_in hi hx, bor_wipe np wo, upd_same, .nil, by simp, fun a ha => (by simp at ha; subst ha; exact ⟨hD, bD, nD⟩), q⟩, ?_⟩
      rintro i m H2 ⟨rfl, hi2, B2, r2, O2, acc, ad, s3, c3, k3, b3, hA, hQ, nd2, fr2, e2⟩
      have same : Same B1 H2 := s3.sB.trans c3.sub
      by_cases hlt : i < ds.length
      · refine .inr ⟨sv.go i H2 hlt same, fun H' => i + 1 ≤ ds.length ∧ ∃ B' r2 O' acc ad, Step B1 H1 O1 B' H' O' ∧ Con X.K B' H' (wipe σ vs) r2 O' ∧ Clear r2 vs ∧ Bor r1 σ r2 (wipe σ vs) ∧ H' D = some (.lst (acc.map V.ref)) ∧ RowsAt X.K B' H' acc ad ∧ (D :: acc).Nodup ∧ (∀ a ∈ D :: acc, H1 a = none ∧ B' a = none ∧ ¬ O' a) ∧ lcL vs set t me (ds.drop (i + 1)) ad r2 = some (xs, rf),
          fun H' z => ⟨ds.length - (i + 1), by omega, rfl, z⟩, fun x H3 y => ?_⟩
        have ed : ds.drop i = ds[i] :: ds.drop (i + 1) := (List.drop_eq_getElem_cons hlt)
        rw [ed] at e2
        obtain ⟨B3, s4, c4, d4⟩ : ∃ B3, Step B2 H2 O2 B3 H3 O2 ∧ Con X.K B3 H3 (wipe σ vs) r2 O2 ∧ (Dq X.K B3 x ds[i] ∨ (lo = true ∧ Dw X.K B3 x ds[i])) := by
          rcases sv.yld i H2 x H3 ds[i] (List.getElem?_eq_getElem hlt) same y B2 s3.sB c3.sub with ⟨rfl, d⟩ | ⟨hlo, T, ws, hT, rfl, d⟩
          · exact ⟨B2, .refl, c3, .inl d⟩
          · obtain ⟨c5, s5⟩ := c3.layF (o := .tup ws) hT
            exact ⟨_, s5, c5, .inr ⟨hlo, d⟩⟩
        simp only [lcL] at e2
        cases q1 : set ds[i] r2 with
        | none => rw [q1] at e2; cases e2
        | some z1 =>
          obtain ⟨o1, r3⟩ := z1
          rw [q1] at e2
          cases o1 with
          | nx =>
            refine ⟨B3, r2, O2, ds[i], r3, c4, d4, q1, fun σ2 c5 b5 k5 l5 => ⟨?_, ?_⟩⟩
            · apply List.ext_getElem?
              intro j
              by_cases hj : j ∈ vs
              · by_cases hl : j < σ.length
                · have g : ∀ τ : L2.St, τ.length = σ.length → (wipe τ vs)[j]? = some none := fun τ hτ => by
                    cases qq : (wipe τ vs)[j]? with
                    | none => rw [List.getElem?_eq_none_iff, wipe_length] at qq; omega
                    | some w => cases w with
                      | none => rfl
                      | some w => exact absurd qq (wipe_in hj)
                  rw [g σ rfl, g σ2 (l5.trans wl)]
                · rw [List.getElem?_eq_none (by rw [wipe_length, l5, wl]; omega), List.getElem?_eq_none (by rw [wl]; omega)]
              · rw [wipe_out hj, wipe_out hj, k5 j (fun z => hj (hix j z)), wipe_out hj]
            · simp only at e2
              cases q2 : t r3 with
              | none => rw [q2] at e2; cases e2
              | some z2 =>
                obtain ⟨o2, r4⟩ := z2
                rw [q2] at e2
                refine ⟨B3, r3, O2, c5, o2, r4, q2, ?_⟩
                cases o2 with
                | exc x => cases e2
                | ok b =>
                  intro B5 H5 O5 b' s6 c6 b6 hb'
                  cases hb'
                  have s36 : Step B1 H1 O1 B5 H5 O5 := (s3.trans s4).trans s6
                  have k25 : ∀ a ∈ D :: acc, H5 a = H2 a ∧ B5 a = none ∧ ¬ O5 a := fun a ha => by
                    obtain ⟨f1, f2, f3⟩ := fr2 a ha
                    have hne : H2 a ≠ none := by
                      rcases List.mem_cons.mp ha with z | z
                      · rw [z, hA]; simp
                      · exact rowsAt_some hQ a z
                    have s46 := s4.trans s6
                    refine ⟨?_, s46.nB a hne f3 f2, fun z => ?_⟩
                    · cases qq : H2 a with
                      | none => exact absurd qq hne
                      | some w => exact s46.keep a w qq f3
                    · rcases s46.nO a z with z | z
                      · exact f3 z
                      · exact hne z
                  have hA5 : H5 D = some (.lst (acc.map V.ref)) := by rw [(k25 D (by simp)).1]; exact hA
                  have hQ5 : RowsAt X.K B5 H5 acc ad := rowsAt_same (s4.sB.trans s6.sB) hQ fun a ha => (k25 a (by simp [ha])).1
                  cases b with
                  | false =>
                    exact iteF ⟨hlt, B5, wipeR r4 vs, O5, acc, ad, s36, c6.wiped (wl.trans (l5.trans wl).symm |>.trans rfl) fun j hj => (k5 j fun z => hj (hix j z)).symm, fun i hi x hx => wipeR_in hi hx, bor_wipe2 np (b3.trans (b5.trans b6)) wo, hA5, hQ5, nd2, fun a ha => ⟨(fr2 a ha).1, (k25 a ha).2⟩, e2⟩
                  | true =>
                    simp only at e2
                    cases q3 : me r4 with
                    | none => rw [q3] at e2; cases e2
                    | some z3 =>
                      obtain ⟨o3, r5⟩ := z3
                      rw [q3] at e2
                      cases o3 with
                      | exc x => cases e2
                      | ok rv =>
                        cases rv with
                        | val d => cases e2
                        | new ct =>
                          cases ct with
                          | lst ds2 =>
                            simp only at e2
                            split at e2
                            · rename_i hz
                              refine iteT (tG.of ⟨c6, .ok (.new (.lst ds2)), r5, q3, fun B6 H6 O6 y6 s7 c7 b7 d7 => ?_⟩)
                              obtain ⟨l, F, rfl, ⟨rfl, vs2, w1, w2⟩, w3⟩ := d7
                              obtain ⟨n1, n2, n3⟩ := w3 l (by simp)
                              have k26 : ∀ a ∈ D :: acc, H6 a = H5 a ∧ B6 a = none ∧ ¬ O6 a ∧ a ≠ l := fun a ha => by
                                obtain ⟨f1, f2, f3⟩ := k25 a ha
                                have hne : H5 a ≠ none := by
                                  rcases List.mem_cons.mp ha with z | z
                                  · rw [z, hA5]; simp
                                  · exact rowsAt_some hQ5 a z
                                refine ⟨?_, s7.nB a hne f3 f2, fun z => ?_, fun z => hne (z ▸ n1)⟩
                                · cases qq : H5 a with
                                  | none => exact absurd qq hne
                                  | some w => exact s7.keep a w qq f3
                                · rcases s7.nO a z with z | z
                                  · exact f3 z
                                  · exact hne z
                              have hA6 : H6 D = some (.lst (acc.map V.ref)) := by rw [(k26 D (by simp)).1]; exact hA5
                              have nDl : D ≠ l := (k26 D (by simp)).2.2.2
                              have bD6 := (k26 D (by simp)).2.1
                              have nD6 := (k26 D (by simp)).2.2.1
                              refine ⟨acc.map V.ref, hA6, by rw [List.length_map, hQ5.length, ← line_eq]; exact hz, hlt, ?_⟩
                              have c8 : Con X.K B6 (upd H6 D (.lst (acc.map V.ref ++ [.ref l]))) σ2 r5 O6 := c7.mono (Same.refl _) (fun a w ha => by
                                by_cases z : a = D
                                · subst z; rw [bD6] at ha; cases ha
                                · rw [upd_ne z]; exact c7.sub a w ha) (fun a ha => upd_ne (show a ≠ D from fun z => nD6 (by rw [← z]; exact ha))) c7.off
                              have s37 := s36.trans s7
                              have s9 : Step B1 H1 O1 B6 (upd H6 D (.lst (acc.map V.ref ++ [.ref l]))) O6 := ⟨s37.sB, fun a w ha na => by
                                rw [upd_ne (ne_of_none ha hD)]
                                exact s37.keep a w ha na, fun a ha => by
                                by_cases z : a = D
                                · subst z; rw [upd_same]; simp
                                · rw [upd_ne z]; exact s37.live a ha, s37.nB, s37.nO⟩
                              have nl1 : H1 l = none := by
                                by_cases z : H1 l = none
                                · exact z
                                · exact absurd n1 (s36.live l z)
                              refine ⟨B6, wipeR r5 vs, O6, acc ++ [l], ad ++ [ds2], s9, c8.wiped (wl.trans (l5.trans wl).symm |>.trans rfl) fun j hj => (k5 j fun z => hj (hix j z)).symm, fun i hi x hx => wipeR_in hi hx, bor_wipe2 np (b3.trans (b5.trans (b6.trans b7))) wo, by rw [upd_same, List.map_append]; rfl, ?_, ?_, fun a ha => ?_, e2⟩
                              · refine rowsAt_snoc (rowsAt_same s7.sB hQ5 fun a ha => ?_) ⟨vs2, by rw [upd_ne nDl.symm]; exact w1, w2⟩
                                rw [upd_ne (show a ≠ D from fun z => (List.nodup_cons.mp nd2).1 (z ▸ ha))]
                                exact (k26 a (by simp [ha])).1
                              · have e : D :: (acc ++ [l]) = (D :: acc) ++ [l] := rfl
                                rw [e, List.nodup_append]
                                exact ⟨nd2, by simp, fun a ha b hb => by simp at hb; subst hb; exact (k26 a ha).2.2.2⟩
                              · have ha : a ∈ (D :: acc) ++ [l] := ha
                                rcases List.mem_append.mp ha with ha | ha
                                · exact ⟨(fr2 a ha).1, (k26 a ha).2.1, (k26 a ha).2.2.1⟩
                                · simp at ha
                                  subst ha
                                  exact ⟨nl1, n2, n3⟩
                            · cases e2
                          | _ => cases e2
          | _ => cases e2
      · have ei : i = ds.length := by omega
        subst ei
        rw [List.drop_length] at e2
        cases e2
        refine .inl ⟨sv.stop H2 same, p B2 H2 O2 (.ref D) s3 ?_ (fun i x hx px => ⟨(b3 i x hx px).1, rfl⟩) ⟨D, D :: acc, rfl, ⟨acc, rfl, hA, nd2, hQ⟩, fun a ha => fr2 a ha⟩⟩
        have c9 := c3.wiped (σ' := σ) wl.symm fun j hj => (wo j hj).symm
        rw [clear_wipe k3] at c9
        exact c9
theorem ds_setLcL {lo : Bool} {i : Nat} {y : Str} {py : Pos} {elt tg iter : Expr} {ifs : List Expr} {scope : Scope} {own : List (Str × Nat)} {pos spos : Pos} {mi : M (List D)} {ix : List Nat} {set : D → S} {t : M Bool} {me : M RV} (hc : X.calm = true) (hN : X.N.Nodup) (hy : X.N[i]? = some y) (hyl : X.env.scope.names.lookup y = some .local)
    (hsw : swapsWith (.ListComp elt [⟨tg, iter, ifs, 0⟩] scope pos) (some (.Name y py)) spos.line X.env = pure true) (hi : DI X W lo tg iter mi) (ok : BlkOk X.N X.env.scope scope own)
    (hg : ∀ (s : Shared) (H : Hp) (C : Addr) (cl : List (Str × Addr)) (fp : List Addr), DG (X.blk s H scope (compEnvC scope cl C X.env) fp) lo tg ix set) (ht : ∀ (s : Shared) (H : Hp) (C : Addr) (cl : List (Str × Addr)) (fp : List Addr), DTs (X.blk s H scope (compEnvC scope cl C X.env) fp) W0 ifs t)
    (he : ∀ (s : Shared) (H : Hp) (C : Addr) (cl : List (Str × Addr)) (fp : List Addr), DE (X.blk s H scope (compEnvC scope cl C X.env) fp) W0 elt me) (hix : ∀ j ∈ ix, j ∈ own.map (·.2)) (hs : ∀ x, foldedSetIterable iter X.env x = pure x := by intro _; rfl) :
    DS X W (.Assign [.Name y py] (.ListComp elt [⟨tg, iter, ifs, 0⟩] scope pos) spos) (sSet i (mLcL (own.map (·.2)) mi set t me)) :=
  ds_setG (ps_weak (ps_setLc (g := gD X.K lo ix set) (tt := tG (Cx.g X) W0 t rB) (te := tG (Cx.g X) W0 me (rV (Cx.g X))) hc hN hy hyl hsw hi ok hg ht he hs) fun D σ H h => lcL_read hix h)
end
end DL
end

section
namespace DL
open PySem
/-- x.index(y), whole numbers -/
def fIndex (ds : List D) (b : AV) : M RV := fun r => match intsD ds, (look2 r b).bind Rs.data with
  | some ns, some (.int y) => (ns.findIdx? (· == y)).map fun k => (.ok (.val (.int (k : Nat))), r)
  | _, _ => none
def mIndex (m : M RV) (me : M AV) : M RV := (mFz m).bind fun d => match rowOf d with
  | none => M.of none
  | some ds => me.bind (fIndex ds)
def gLen : List Rs → Option RV
  | [.ow (.ll rows)] => some (.val (.int rows.length))
  | [.ow (.dK kvs)] => some (.val (.int kvs.length))
  | [a] => match a.data with
    | some (.list xs) => some (.val (.int xs.length))
    | some (.tuple xs) => some (.val (.int xs.length))
    | some (.str x) => if x.length ≤ lineD then some (.val (.int x.length)) else none
    | _ => none
  | _ => none
inductive Ty where
  | int | bool | str | list | tuple | dict
  deriving DecidableEq
/-- one pair of whole numbers -/
def oneI : List (D × D) → Bool
  | [(.int _, .int _)] => true
  | _ => false
/-- isinstance(x, T) -/
def isTy : Ty → D → Option Bool
  | .int, .int _ => some true
  | .int, .bool _ => some true
  | .bool, .bool _ => some true
  | .str, .str _ => some true
  | .list, .list _ => some true
  | .tuple, .tuple _ => some true
  | .dict, .dict (p :: r) => if oneI (p :: r) then some true else none
  | _, .dict (p :: r) => if oneI (p :: r) then some false else none
  | .dict, .dict [] => some true
  | _, _ => some false
def anyTy : List Ty → D → Option Bool
  | [], _ => some false
  | t :: ts, d => match isTy t d with
    | some true => some true
    | some false => anyTy ts d
    | none => none
def mIsi (ts : List Ty) (m : M AV) : M RV := m.bind fun a => fun r => ((look2 r a).bind Rs.data).bind fun d => (anyTy ts d).map fun b => (.ok (.val (.bool b)), r)
end DL
end

section
namespace DL
open PySem PySem.Spec PyProof.Rows L2
section
variable {X : Cx} {W : WX}
theorem At.opsL {lo : Bool} {ms : List (M AV)} {g : List Rs → Option (List D)} {B : Hp} {r : Ro} {O : Addr → Prop} {σ : L2.St} {H : Hp} {Q : It → Hp → Prop} (h : At (Cx.g X) W (mOpL g ms) (rI (Cx.g X) lo) B r O σ H Q) :
    At (Cx.g X) W (oL ms) (rL (Cx.g X)) B r O σ H fun vs H1 => ∃ B1 xs ds, Same B1 H1 ∧ Paired (RsR X.K B1 H1) xs vs ∧ g xs = some ds ∧ ∀ J, Serves X.K lo J B1 ds → Q J H1 := by
  refine (h.bind later_rI (R := rL (Cx.g X))).mono ?_
  rintro vs H1 ⟨as, B1, r1, O1, s1, x1, c, o, r', e, p⟩
  simp only at e
  split at e
  · cases e
  · rename_i xs q
    cases q2 : g xs with
    | none => rw [q2] at e; cases e
    | some ds =>
      rw [q2] at e
      cases e
      exact ⟨B1, xs, ds, c.sub, c.looks2_ q x1, q2, fun J sv => p B1 H1 O1 J .refl c .refl sv⟩
theorem okR_of {i : Int} (h : okR i = true) : -(2 ^ 62) ≤ i ∧ i < 2 ^ 62 := by
  unfold okR at h
  simpa using h
theorem di_rng1 {lb : Bool} {tg a : Expr} {p pos : Pos} {ma : M AV} (hg : Gl X "range") (hm : X.mg "range" = none) (ha : DO X W a ma) (hs : starEach [a] X.env = [(false, eval a X.env)] := by rfl) (hs2 : starEach [a] X.env = (false, eval a X.env) :: starEach [] X.env := by rfl) : DI X W lb tg (.Call (.Name "range" p) [a] [] pos) (mOpL gRng1 [ma]) :=
  pi_weak (pi_range1 hg hm (da_cons ha da_nil hs2) hs) fun σ H Q ⟨B, r, O, h⟩ => by
    refine tG.of (h.opsL.mono ?_)
    rintro vs H1 ⟨B1, xs, ds, sb, p, hg, q⟩
    unfold gRng1 at hg
    split at hg
    · rename_i j
      split at hg
      · rename_i hj
        cases hg
        cases p with
        | cons p1 p =>
          cases p
          cases dp_int p1
          obtain ⟨h1, h2⟩ := okR_of hj
          refine ⟨j, rfl, h1, h2, q _ ?_⟩
          have := serves_range (lb := lb) (K := X.K) (B0 := B1) (lo := 0) (hi := j)
          rwa [Int.sub_zero] at this
      · cases hg
    · cases hg
def rO : Rl (Option Int) (Option Int) := fun _ _ _ _ _ a b => a = b
theorem later_rO : Later rO := fun _ _ _ _ _ _ _ _ _ h => h
def DP (X : Cx) (W : WX) (e : Option Expr) (m : M (Option Int)) : Prop := PO X e (tG (Cx.g X) W m rO)
theorem dp_none : DP X W none (mBd none) := ⟨fun pins s σ H Q I ⟨B, r, O, h⟩ => po_none.run pins s σ H Q I (h.ret rfl)⟩
theorem dp_some {e : Expr} {m : M AV} (h : DO X W e m) : DP X W (some e) (mBd (some m)) := ⟨fun pins s σ H Q I ⟨B, r, O, g⟩ => (po_some h).run pins s σ H Q I (by
  refine tG.of ((At.bind g later_rO (R := rA (Cx.g X))).mono ?_)
  rintro v H1 ⟨a, B1, r1, O1, s1, x1, c, o, r', e, p⟩
  simp only at e
  split at e
  · rename_i n q
    cases e
    obtain ⟨rs, q1, q2⟩ := Option.bind_eq_some_iff.mp q
    exact ⟨n, rs_int (c.look2_ q1 x1) q2, p B1 H1 O1 _ .refl c .refl rfl⟩
  · cases e)⟩
theorem sIxD_eq (n d : Nat) (o : Option Int) : sIxD n d o = HT.sIx n d o := by cases o <;> rfl
theorem cutD_cut {xs : List V} {lo hi : Option Int} : cutD xs lo hi = cutV xs lo hi := by
  unfold cutD cutV
  rw [sIxD_eq, sIxD_eq]
theorem DqAll.cut {K : PySem.W.Frag} {H : Hp} {vs : List V} {ds : List D} (h : DqAll K H vs ds) (lo hi : Option Int) : DqAll K H (cutV vs lo hi) (cutD ds lo hi) := by
  rw [← cutD_cut]
  unfold cutD
  rw [h.length]
  exact (h.drop _).take _
theorem scrL_eq : ∀ (ns : List Int), scrL (ns.map fun n => (PyData.int n, PyData.none)) = some ns
  | [] => rfl
  | n :: ns => by
    show (scrL (ns.map fun n => (PyData.int n, PyData.none))).map (n :: ·) = _
    rw [scrL_eq ns]
    rfl
theorem scrOf_eq (ns : List Int) : scrOf ((PyData.none, PyData.none) :: ns.map fun n => (PyData.int n, PyData.none)) = some ns := scrL_eq ns
theorem dq_ints {K : PySem.W.Frag} {H : Hp} : ∀ ns : List Int, DqAll K H (ns.map V.int) (ns.map PyData.int)
  | [] => .nil
  | n :: ns => .cons (.int n) (dq_ints ns)
theorem cut_map {α β : Type} (f : α → β) (xs : List α) (lo hi : Option Int) : cutD (xs.map f) lo hi = (cutD xs lo hi).map f := by
  unfold cutD
  rw [List.length_map, List.map_take, List.map_drop]
/-- a[lo:hi] of lists, tuples, the script -/
theorem sl_any {a : Rs} {B H : Hp} {lo hi : Option Int} {v : V} {z : RV} {Q : VK} (sb : Same B H) (h : RsR X.K B H a v) (e : gCut lo hi a = some z) (q : ∀ H' v, Alc X.K B H H' z v → Q v H') : rSlL X.K v lo hi H Q ∨ rSlF X.K v lo hi H Q := by
  unfold gCut at e
  split at e
  · rename_i xs q1
    cases e
    obtain ⟨l, vs, rfl, h1, d1⟩ := rs_list sb h q1
    exact .inl ⟨l, vs, rfl, .of h1, alc_lst q (d1.cut lo hi)⟩
  · rename_i xs q1
    cases e
    obtain ⟨l, vs, rfl, h1, d1⟩ := rs_tuple sb h q1
    refine .inr ⟨l, vs, rfl, h1.sq, fun hw => ?_, fun _ => alc_tup q (d1.cut lo hi)⟩
    have : cutD xs lo hi = xs := by
      unfold cutD
      rw [sIxD_eq, sIxD_eq, ← d1.length, hw.1, hw.2, List.drop_zero, d1.length, Nat.sub_zero]
      exact List.take_length
    rw [this] at q
    cases a with
    | fz d => cases q1; exact alc_val q h
    | ow c => cases c <;> cases q1
  · rename_i kvs q1
    cases q2 : scrOf kvs with
    | none => rw [q2] at e; cases e
    | some ns =>
      rw [q2] at e
      cases e
      cases a with
      | ow c => cases c <;> cases q1
      | fz d =>
        cases q1
        cases h with
        | dic s => cases q2
        | dii s => cases q2
        | fn s hd => unfold fnD at hd; cases hd; cases q2
        | @scr l ms d hs hd =>
          have hk : kvs = (PyData.none, PyData.none) :: ms.map fun n => (PyData.int n, PyData.none) := by
            unfold scrD at hd
            cases hd; rfl
          subst hk
          rw [scrOf_eq] at q2
          cases q2
          refine .inl ⟨l, _, rfl, sb.seq hs, alc_lst q ?_⟩
          rw [← cutD_cut, cut_map]
          exact dq_ints _
  · cases e
theorem de_slice {a : Expr} {lo hi : Option Expr} {p2 pos : Pos} {ma : M AV} {ml mh : Option (M AV)} (ha : DO X W a ma) (hl : DP X W lo (mBd ml)) (hh : DP X W hi (mBd mh)) : DE X W (.Subscript a (.Slice lo hi none p2) pos) (mSl ma ml mh) :=
  pe_weak (pe_slice (SlR.or sl_list fsl_tup) ha hl hh) fun σ H Q ⟨B, r, O, h⟩ => by
    refine tG.of ((h.bind later_rV (R := rA (Cx.g X))).mono ?_)
    rintro v H1 ⟨a, B1, r1, O1, s1, x1, h1⟩
    refine tG.of ((h1.bind later_rV (R := rO)).mono ?_)
    rintro l H2 ⟨l', B2, r2, O2, s2, rfl, h2⟩
    refine tG.of ((h2.bind later_rV (R := rO)).mono ?_)
    rintro u H3 ⟨u', B3, r3, O3, s3, rfl, c, o, r', e, p⟩
    simp only at e
    cases q : (look2 r3 a).bind (gCut l' u') with
    | none => rw [q] at e; cases e
    | some z =>
      rw [q] at e
      cases e
      obtain ⟨rs, q1, q2⟩ := Option.bind_eq_some_iff.mp q
      have x3 := (AvR.same (s2.sB.trans s3.sB) x1)
      refine sl_any c.sub (c.look2_ q1 x3) q2 fun H' v al => ?_
      obtain ⟨B', s, c', rv⟩ := c.alc al
      exact p B' H' O3 v s c' .refl rv
theorem ints_dq {K : PySem.W.Frag} {H : Hp} : ∀ {ds : List D} {ns : List Int} {vs : List V}, intsD ds = some ns → DqAll K H vs ds → vs = ns.map V.int
  | [], _, _, h, d => by cases h; cases d; rfl
  | .int i :: ds, ns, _, h, d => by
    cases d with
    | cons h1 t =>
      simp only [intsD] at h
      cases q : intsD ds with
      | none => rw [q] at h; cases h
      | some ms =>
        rw [q] at h
        cases h
        rw [dp_int h1, ints_dq q t]
        rfl
  | .none :: _, _, _, h, _ => by cases h
  | .bool _ :: _, _, _, h, _ => by cases h
  | .str _ :: _, _, _, h, _ => by cases h
  | .list _ :: _, _, _, h, _ => by cases h
  | .tuple _ :: _, _, _, h, _ => by cases h
  | .dict _ :: _, _, _, h, _ => by cases h
theorem flat_ints (ns : List Int) : (ns.map V.int).all flatV = true := by
  rw [List.all_map]
  exact List.all_eq_true.mpr fun _ _ => rfl
theorem find_facts {ns : List Int} {y : Int} {k : Nat} (h : ns.findIdx? (· == y) = some k) : ns[k]? = some y ∧ ∀ (m : Nat) z, m < k → ns[m]? = some z → (z == y) = false := by
  rw [List.findIdx?_eq_some_iff_getElem] at h
  obtain ⟨hk, h1, h2⟩ := h
  refine ⟨by rw [List.getElem?_eq_getElem hk]; simpa using h1, fun m z hm hz => ?_⟩
  have := h2 m hm
  obtain ⟨hm', e⟩ := List.getElem?_eq_some_iff.mp hz
  rw [e] at this
  simpa using this
theorem mt_tupIndexI : MtR X "tuple.index" (fun x xs H Q => ∃ p, ∃ ns : List Int, ∃ z j, x = .ref p ∧ xs = [.int z] ∧ SqT X.K H p (ns.map V.int) ∧ ns[j]? = some z ∧ (∀ (m : Nat) y, m < j → ns[m]? = some y → (y == z) = false) ∧ Q (.int (j : Nat)) H) := by
  intro pins s σ H x xs v us Q I rx rs h
  obtain ⟨p, ys, z, j, rfl, rfl, hq, hy, hno, q⟩ := h
  cases rx
  obtain ⟨u, rfl, t, rfl⟩ := vals1 rs
  obtain ⟨its, r, pl, hz⟩ := I.tuple hq
  obtain ⟨⟨cls, dd, dt, sl⟩, ho, hc, n, hd⟩ := pl
  simp only at hc hd
  subst hc
  subst hd
  have hl : its.toArray.size = ys.length := by rw [List.size_toArray, ← r.length, List.length_map]
  have hj : j < its.toArray.size := by rw [hl]; exact (List.getElem?_eq_some_iff.mp hy).1
  have at' : ∀ (m : Nat) (hm : m < its.toArray.size), ∃ y t', ys[m]? = some y ∧ its.toArray[m] = Value.int y t' := fun m hm => by
    have hm' : m < ys.length := by rw [← hl]; exact hm
    obtain ⟨w, hw, t', hw'⟩ := r.get (i := m) (x := .int ys[m]) (by simp [hm'])
    refine ⟨ys[m], t', List.getElem?_eq_getElem hm', ?_⟩
    have e := (List.getElem?_eq_some_iff.mp hw).2
    rw [← hw', ← e]
    simp
  refine call_meets PySem.F.slot_tuple_index ⟨_, ho, rfl⟩ PySem.F.entry_tuple_index (PySem.F.args_tuple_index_2 _ _) (TI.tuple_indexAt p its.toArray n dd sl (.int z t) (eqU (.int z)) j hj ?_ ?_)
    ⟨ho, fun w hw => mem_eqAt (x := .int z) ⟨t, rfl⟩ rfl r (flat_ints ys) w (by simpa using hw), ⟨.int (j : Nat), H, I.tok _, ⟨_, rfl⟩, q⟩⟩
  · obtain ⟨y, t', h1, h2⟩ := at' j hj
    rw [hy] at h1
    cases h1
    rw [h2]
    show (z == z) = true
    exact beq_self_eq_true z
  · intro m hm hmj
    obtain ⟨y, t', h1, h2⟩ := at' m hm
    rw [h2]
    show (y == z) = false
    exact hno m y hmj h1
end
end DL
end

section
namespace DL
open PySem PySem.Spec PyProof.Rows L2
section
variable {X : Cx} {W : WX}
theorem oL_one (m : M AV) {β : Type} (f : AV → M β) (g : M β) : ((oL [m]).bind fun bs => match bs with | [b] => f b | _ => g) = m.bind f := by
  unfold oL oL
  simp only [bind_assoc, ret_bind]
/-- x.index(y), x a list or a tuple -/
theorem de_index {o e : Expr} {apos cpos : Pos} {mo : M RV} {me : M AV} (ho : DE X W o mo) (he : DO X W e me)
    (hbase : attributeBase o "index" X.env (eval o X.env) = eval o X.env := by rfl)
    (hfew : ((backTo cpos (starEach [e] X.env)).all (fun x => !x.1) && (backToKw cpos (keywordEach [] X.env)).all (fun x => x.1.isSome)
      && decide ([e].length + ([] : List Keyword).length + (if ([] : List Keyword).isEmpty then 0 else 1) < 30)) = true := by rfl)
    (hline : (apos.endLine == cpos.line) = true := by rfl) (hs : starEach [e] X.env = (false, eval e X.env) :: starEach [] X.env := by rfl) (hplain : (backTo cpos (starEach [] X.env)).any (·.1) = false := by rfl) :
    DE X W (.Call (.Attribute o "index" apos) [e] [] cpos) (mIndex mo me) :=
  pe_weak (fe_bm PySem.F.plainAttrs_list PySem.F.slot_list_index PySem.F.type_list_index mt_index PySem.F.plainAttrs_tuple PySem.F.slot_tuple_index PySem.F.type_tuple_index mt_tupIndexI ho (da_cons he da_nil hs) hbase hfew hline hs hplain) fun σ H Q ⟨B, r, O, h⟩ => by
    refine tG.of (At.froz ((h.bind later_rV (R := rD (Cx.g X))).mono ?_))
    rintro x H1 ⟨d, B1, r1, O1, s1, x1, h1⟩
    have x1 : Dq X.K B1 x d := x1
    have sb1 := h1.1.sub
    split at h1
    · exact h1.no.elim
    · rename_i ds qd
      -- behind the argument
      have arg : tG (Cx.g X) W (oL [me]) (rL (Cx.g X)) σ H1 fun vs H2 => ∃ B2 ns y k, Same B1 B2 ∧ Same B2 H2 ∧ vs = [.int y] ∧ intsD ds = some ns ∧ ns.findIdx? (· == y) = some k ∧ Q (.int (k : Nat)) H2 := by
        rw [← oL_one me (fIndex ds) (M.of none)] at h1
        refine tG.of ((h1.bind later_rV (R := rL (Cx.g X))).mono ?_)
        rintro vs H2 ⟨bs, B2, r2, O2, s2, x2, h5⟩
        split at h5
        · rename_i b
          obtain ⟨c, o, r', e, p⟩ := h5
          unfold fIndex at e
          split at e
          · rename_i ns y q1 q2
            cases qk : ns.findIdx? (· == y) with
            | none => rw [qk] at e; cases e
            | some k =>
              rw [qk] at e
              cases e
              cases x2 with
              | cons xb t =>
                cases t
                obtain ⟨rs, q3, q4⟩ := Option.bind_eq_some_iff.mp q2
                have := rs_int (c.look2_ q3 xb) q4
                subst this
                exact ⟨B2, ns, y, k, s2.sB, c.sub, rfl, q1, qk, p B2 H2 O2 _ .refl c .refl (.int _)⟩
          · cases e
        · exact h5.no.elim
      obtain ⟨Bx, rx, Ox, hx⟩ := arg
      rcases row_of qd with rfl | rfl
      · obtain ⟨l, ms, rfl, g1, g2⟩ := dp_list x1
        refine .inl ⟨l, ms, rfl, .of (sb1 _ _ g1), tG.of (hx.mono fun vs H2 z => ?_)⟩
        obtain ⟨B2, ns, y, k, sb, sh, rfl, qn, hk, q⟩ := z
        have := ints_dq qn g2
        subst this
        obtain ⟨f1, f2⟩ := find_facts hk
        refine ⟨l, _, .int y, k, .int y, rfl, rfl, .of (sh _ _ (sb _ _ g1)), rfl, flat_ints ns, by rw [List.getElem?_map, f1]; rfl, by show (y == y) = true; simp, fun m z' hm hz => ?_, q⟩
        rw [List.getElem?_map] at hz
        cases qz : ns[m]? with
        | none => rw [qz] at hz; cases hz
        | some w => rw [qz] at hz; cases hz; exact f2 m w hm qz
      · obtain ⟨l, ms, rfl, g1, g2⟩ := dp_tuple x1
        refine .inr ⟨l, ms, rfl, tup_same sb1 g1, tG.of (hx.mono fun vs H2 z => ?_)⟩
        obtain ⟨B2, ns, y, k, sb, sh, rfl, qn, hk, q⟩ := z
        have := ints_dq qn g2
        subst this
        obtain ⟨f1, f2⟩ := find_facts hk
        exact ⟨l, ns, y, k, rfl, rfl, (tup_same sh (tup_same sb g1)).sq, f1, f2, q⟩
theorem cd_len : CallD X (.builtin "len") gLen := by
  intro pins s σ H vs us Q I r ⟨B, as, z, sb, p, hg, q⟩
  unfold gLen at hg
  split at hg
  · rename_i rows
    cases hg
    cases p with
    | cons p1 p =>
      cases p
      obtain ⟨l, F, rfl, as, rfl, g1, _, g2⟩ := p1
      exact call_len_seq pins s σ H _ us Q I r ⟨l, _, rfl, .inl (.of g1), by rw [List.length_map, g2.length]; exact alc_val q (.int _)⟩
  · rename_i kvs
    cases hg
    cases p with
    | cons p1 p =>
      cases p
      obtain ⟨l, F, rfl, rfl, vs, g1, g2⟩ := p1
      exact call_lenD pins s σ H _ us Q I r ⟨l, vs, rfl, g1, by rw [show vs.length = kvs.length from g2.length]; exact alc_val q (.int _)⟩
  · rename_i a
    cases p with
    | cons p1 p =>
      cases p
      split at hg
      · rename_i xs e
        cases hg
        obtain ⟨l, ms, rfl, g1, g2⟩ := rs_list sb p1 e
        exact call_len_seq pins s σ H _ us Q I r ⟨l, ms, rfl, .inl (.of g1), by rw [g2.length]; exact alc_val q (.int _)⟩
      · rename_i xs e
        cases hg
        obtain ⟨l, ms, rfl, g1, g2⟩ := rs_tuple sb p1 e
        exact call_len_seq pins s σ H _ us Q I r ⟨l, ms, rfl, .inr g1.sq, by rw [g2.length]; exact alc_val q (.int _)⟩
      · rename_i x e
        split at hg
        · rename_i hl
          cases hg
          cases rs_str p1 e
          exact call_len_str pins s σ H _ us Q I r ⟨x, rfl, by rw [← line_eq]; exact hl, alc_val q (.int _)⟩
        · cases hg
      · cases hg
  · cases hg
def tyN : Ty → String
  | .int => "int"
  | .bool => "bool"
  | .str => "str"
  | .list => "list"
  | .tuple => "tuple"
  | .dict => "dict"
theorem isTy_pl {t : Ty} {d : D} {b : Bool} (h : isTy t d = some b) : (isTy .int d).isSome = true := by
  cases d with
  | dict kvs =>
    cases kvs with
    | nil => rfl
    | cons p r =>
      by_cases q : oneI (p :: r) = true
      · simp [isTy, q]
      · cases t <;> simp [isTy, q] at h
  | _ => rfl
theorem isTy_dict {kvs : List (D × D)} (h : (isTy .int (.dict kvs)).isSome = true) : kvs = [] ∨ ∃ i j, kvs = [(.int i, .int j)] := by
  cases kvs with
  | nil => exact .inl rfl
  | cons p r =>
    by_cases q : oneI (p :: r) = true
    · unfold oneI at q
      split at q
      · rename_i i j e
        exact .inr ⟨i, j, e⟩
      · cases q
    · simp [isTy, q] at h
theorem isTy_kit {K : PySem.W.Frag} {B H : Hp} {d : D} {a : Rs} {v : V} (sb : Same B H) (h : RsR K B H a v) (e : a.data = some d) (hd : (isTy .int d).isSome = true) : ∃ T : String, TyX K H v (.type T) ∧ ∀ (t : Ty) b, isTy t d = some b → PySem.W.kitOne K (.type T) (.type (tyN t)) = some b := by
  cases d with
  | none =>
    have : v = .non := by
      cases a with
      | fz d => cases e; exact dp_non h
      | ow c => cases c <;> cases e
    subst this
    refine ⟨"NoneType", .base .non, fun t b ht => ?_⟩
    cases t <;> cases ht <;> exact kit_ty (by decide +kernel)
  | bool x =>
    have : v = .bl x := by
      cases a with
      | fz d => cases e; exact dp_bl h
      | ow c => cases c <;> cases e
    subst this
    refine ⟨"bool", .base (.bl x), fun t b ht => ?_⟩
    cases t <;> cases ht <;> exact kit_ty (by decide +kernel)
  | int x =>
    cases rs_int h e
    refine ⟨"int", .base (.int x), fun t b ht => ?_⟩
    cases t <;> cases ht <;> exact kit_ty (by decide +kernel)
  | str x =>
    cases rs_str h e
    refine ⟨"str", .base (.str x), fun t b ht => ?_⟩
    cases t <;> cases ht <;> exact kit_ty (by decide +kernel)
  | list x =>
    obtain ⟨l, ms, rfl, g1, g2⟩ := rs_list sb h e
    refine ⟨"list", .base (.lst g1), fun t b ht => ?_⟩
    cases t <;> cases ht <;> exact kit_ty (by decide +kernel)
  | tuple x =>
    obtain ⟨l, ms, rfl, ⟨o, _, g1⟩, g2⟩ := rs_tuple sb h e
    refine ⟨"tuple", .fTuple g1, fun t b ht => ?_⟩
    cases t <;> cases ht <;> exact kit_ty (by decide +kernel)
  | dict x =>
    rcases isTy_dict hd with rfl | ⟨i, j, rfl⟩
    · have : ∃ l, v = .ref l ∧ H l = some (.dK []) := by
        cases a with
        | fz d =>
          cases e
          have h : Dq K B v (.dict []) := h
          generalize hd : (PyData.dict [] : D) = d at h
          cases h with
          | scr s h => rw [h] at hd; cases hd
          | fn s h => rw [h] at hd; cases hd
          | dic s => exact ⟨_, rfl, sb _ _ s⟩
          | _ => cases hd
        | ow c => cases c <;> cases e
      obtain ⟨l, rfl, g1⟩ := this
      refine ⟨"dict", .base (.dK g1), fun t b ht => ?_⟩
      cases t <;> cases ht <;> exact kit_ty (by decide +kernel)
    · have : ∃ l, v = .ref l ∧ H l = some (.dK [(.inl i, .int j)]) := by
        cases a with
        | fz d =>
          cases e
          have h : Dq K B v (.dict [(.int i, .int j)]) := h
          generalize hd : (PyData.dict [(.int i, .int j)] : D) = d at h
          cases h with
          | scr s h => rw [h] at hd; unfold scrD at hd; cases hd
          | fn s h => rw [h] at hd; unfold fnD at hd; cases hd
          | dii s => cases hd; exact ⟨_, rfl, sb _ _ s⟩
          | _ => cases hd
        | ow c => cases c <;> cases e
      obtain ⟨l, rfl, g1⟩ := this
      refine ⟨"dict", .base (.dK g1), fun t b ht => ?_⟩
      cases t <;> cases ht <;> exact kit_ty (by decide +kernel)
/-- isinstance(e, T) -/
theorem de_isi {t : Ty} {e : Expr} {T : Str} {p p2 pos : Pos} {m : M AV} (hg : Gl X "isinstance") (hm : X.mg "isinstance" = none) (hT : Gl X T) (mT : X.mg T = none) (he : DO X W e m) (hvT : bootBuiltins T = some (.type (tyN t))) (nT : T ≠ "__name__" := by decide) (dT : (T == ("__debug__" : Str)) = false := by decide)
    (h1 : starEach [e, .Name T p2] X.env = (false, eval e X.env) :: starEach [.Name T p2] X.env := by rfl) (h2 : starEach [.Name T p2] X.env = (false, eval (.Name T p2) X.env) :: starEach [] X.env := by rfl)
    (hpl : (backTo pos (starEach [.Name T p2] X.env)).any (·.1) = false := by rfl) (hv : bootBuiltins "isinstance" = some (.builtin "isinstance") := by decide +kernel) :
    DE X W (.Call (.Name "isinstance" p) [e, .Name T p2] [] pos) (mIsi [t] m) :=
  pe_weak (pe_callB call_isi hg hm hv (pa_cons he (pa_cons (pe_bltn hT mT hvT (v := .ty (tyN t)) rfl nT dT) pa_nil h2) h1) (by decide) (by decide) h1 hpl) fun σ H Q ⟨B, r, O, h⟩ => by
    refine tG.of ((h.bind later_rV (R := rA (Cx.g X))).mono ?_)
    rintro x H1 ⟨a, B1, r1, O1, s1, x1, c, o, r', e, p⟩
    simp only at e
    cases q : (look2 r1 a).bind Rs.data with
    | none => rw [q] at e; cases e
    | some d =>
      rw [q] at e
      simp only [Option.bind_some, anyTy] at e
      obtain ⟨rs, q3, q4⟩ := Option.bind_eq_some_iff.mp q
      cases q5 : isTy t d with
      | none => rw [q5] at e; cases e
      | some b =>
        rw [q5] at e
        obtain ⟨TT, k1, k2⟩ := isTy_kit c.sub (c.look2_ q3 x1) q4 (isTy_pl q5)
        have k2 := k2 t b q5
        refine ⟨x, .ty (tyN t), _, _, b, rfl, .ty _, k1, k2, ?_⟩
        cases b with
        | true => cases e; exact p B1 H1 O1 _ .refl c .refl (.bl _)
        | false => cases e; exact p B1 H1 O1 _ .refl c .refl (.bl _)
end
end DL
end

section
namespace DL
open PySem
def putD {κ : Type} [DecidableEq κ] (kvs : List (κ × D)) (k : κ) (v : D) : List (κ × D) :=
  if kvs.any (fun kv => decide (kv.1 = k)) = true then kvs.map fun kv => if kv.1 = k then (kv.1, v) else kv else kvs ++ [(k, v)]
def valD {κ : Type} [DecidableEq κ] (kvs : List (κ × D)) (k : κ) : Option D := (kvs.find? fun kv => decide (kv.1 = k)).map (·.2)
end DL
end

section
namespace DL
open PySem PySem.Spec PyProof.Rows L2
section
variable {K : PySem.W.Frag} {B H : Hp}
end
section
variable {X : Cx} {W : WX}
end
end DL
end

section
namespace DL
open PySem
/-- -x -/
def gNeg : List Rs → Option RV
  | [.fz (.int i)] => some (.val (.int (-i)))
  | _ => none
end DL
end

section
namespace DL
open PySem PySem.Spec PyProof.Rows L2
section
variable {prog : Program} {w : World} {A : Around} {E : Value → Shared → Prop} {s : Shared}
end
section
variable {X : Cx} {W : WX}
theorem od_neg : UnD X (unaryOp .USub) gNeg := by
  intro pins s σ H x v Q I rx ⟨B, a, z, sb, r1, hg, q⟩
  unfold gNeg at hg
  split at hg
  · rename_i i e
    cases e
    cases hg
    exact un_neg pins s σ H x v Q I rx ⟨i, dp_int r1, alc_val q (.int _)⟩
  · cases hg
end
end DL
end

section
namespace DL
open PySem
/-- data of small depth that can be laid -/
def okE (d : D) : Bool := d.canLay0 && decide (d.depth ≤ 40)
/-- x in a list or a tuple -/
def gInS (neg : Bool) : List Rs → Option RV
  | [a, b] => match a.data, b.data.bind rowOf with
    | some x, some ys => if okE x && ys.all okE then some (.val (.bool (neg ^^ ys.any fun y => PyData.eqv y x))) else none
    | _, _ => none
  | _ => none
def mmOk (ds : List D) : Bool := ds.all okE && (ds.all fun d => ds.all fun e => W.alike d e) && ds.all fun d => match d with | .none => false | _ => true
def gMinL : List Rs → Option RV
  | [a] => match a.data.bind rowOf with
    | some (x :: xs) => if mmOk (x :: xs) then some (.val (W.minD x xs)) else none
    | _ => none
  | _ => none
def gInt : List Rs → Option RV
  | [.fz (.int i)] => some (.val (.int i))
  | [.fz (.bool b)] => some (.val (.int (if b then 1 else 0)))
  | _ => none
end DL
end

section
namespace DL
open PySem PySem.Spec PySem.Calls PyProof.Rows L2
open PySem.W (EachIs AllAlike Sortable alike dataLt dataLe SortsAt dataKind)
section
variable {prog : Program} {w : World} {A : Around} {E : Value → Shared → Prop} {s : Shared}
end
end DL
end

section
namespace DL
open PySem PySem.Spec PySem.Calls PyProof.Rows L2
open PySem.W (EachIs AllAlike Sortable alike dataLt dataLe SortsAt dataKind)
section
variable {prog : Program} {w : World} {A : Around} {E : Value → Shared → Prop} {s : Shared}
end
theorem okE_lay {d : D} (h : okE d = true) : d.canLay0 = true := (Bool.and_eq_true_iff.mp h).1
theorem okE_dep {d : D} (h : okE d = true) : d.depth ≤ 40 := of_decide_eq_true (Bool.and_eq_true_iff.mp h).2
section
variable {X : Cx} {W : WX}
end
end DL
end

section
namespace DL
open PySem PySem.Spec PySem.Calls PyProof.Rows L2
open PySem.W (EachIs alike dataLt)
section
variable {X : Cx} {W : WX}
theorem lay_all {ds : List D} (h : ∀ d ∈ ds, okE d = true) : PyData.canLayAll0 ds = true ∧ PyData.depthAll ds ≤ 40 := by
  induction ds with
  | nil => exact ⟨by simp [PyData.canLayAll0], by simp [PyData.depthAll]⟩
  | cons d ds ih =>
    obtain ⟨h1, h2⟩ := ih fun e he => h e (by simp [he])
    have h3 := h d (by simp)
    have h4 := okE_dep h3
    exact ⟨by simp only [PyData.canLayAll0, okE_lay h3, h1, Bool.and_self], by simp only [PyData.depthAll]; omega⟩
theorem dqa_reads {pins : List (Addr × Obj)} {σ : L2.St} {H : Hp} {s : Shared} {ms : List V} {its : List Value} {ds : List D} (I : Inv X pins σ H s) (d : DqAll X.K H ms ds) (r : Vals ms its) (h : ∀ d ∈ ds, okE d = true) : ∃ as, ReadsAll s.heap its ds as :=
  Dp.readsAll I ds ms its (dqa_dpa d (lay_all h).1) r
/-- a row looked at -/
theorem row_at {pins : List (Addr × Obj)} {σ : L2.St} {B H : Hp} {s : Shared} (I : Inv X pins σ H s) (sb : Same B H) {a : Rs} {w : V} {ds : List D} (p1 : RsR X.K B H a w) (e : a.data.bind rowOf = some ds) :
    ∃ l ms its, w = V.ref l ∧ (s.heap.IsList l its.toArray ∨ s.heap.IsTuple l its.toArray) ∧ Vals ms its ∧ DqAll X.K B ms ds ∧ ms.length ≤ sizeLine := by
  obtain ⟨d, e1, e2⟩ := Option.bind_eq_some_iff.mp e
  rcases row_of e2 with rfl | rfl
  · obtain ⟨l, ms, ev, g1, g2⟩ := rs_list sb p1 e1
    obtain ⟨its, rv, hl, hz⟩ := I.list (SqL.of (K := X.K) g1)
    exact ⟨l, ms, its, ev, .inl hl.isList, rv, g2, hz⟩
  · obtain ⟨l, ms, ev, g1, g2⟩ := rs_tuple sb p1 e1
    obtain ⟨its, rv, hl, hz⟩ := I.tuple (g1.sq (K := X.K))
    refine ⟨l, ms, its, ev, .inr ?_, rv, g2, hz⟩
    obtain ⟨o, ho, hc, n, hd⟩ := hl
    exact ⟨o, ho, hc, n, hd⟩
theorem all_ok {ds : List D} (h : ds.all okE = true) : ∀ d ∈ ds, okE d = true := fun d hd => List.all_eq_true.mp h d hd
theorem row_dp {K : PySem.W.Frag} {B H : Hp} {a : Rs} {w : V} {ds : List D} (sb : Same B H) (p1 : RsR K B H a w) (e : a.data.bind rowOf = some ds) : ∃ d, (d = .list ds ∨ d = .tuple ds) ∧ Dq K H w d := by
  obtain ⟨d, e1, e2⟩ := Option.bind_eq_some_iff.mp e
  exact ⟨d, row_of e2, rs_dp sb p1 e1⟩
theorem od_in (hu : X.A.units + 64 < cLine) : OpD X (compareOp .In) (gInS false) := by
  intro pins s σ H x y v u Q I rx ry ⟨B, a, b, z, sb, r1, r2, hg, q⟩
  simp only [gInS] at hg
  split at hg
  · rename_i d ds h1 h2
    split at hg
    · rename_i hc
      cases hg
      obtain ⟨k1, k2⟩ := Bool.and_eq_true_iff.mp hc
      obtain ⟨l1, l2⟩ := lay_all (all_ok k2)
      obtain ⟨as, g1⟩ := Dp.reads I d x v (dq_dp (rs_dp sb r1 h1) (okE_lay k1)) rx
      obtain ⟨e, he, hd⟩ := row_dp sb r2 h2
      have e1 := okE_dep k1
      have hroom : X.A.units + 1 + min (PyData.depthAll ds) d.depth < cLine := by omega
      rcases he with rfl | rfl
      · obtain ⟨bs, g2⟩ := Dp.reads I (.list ds) y u (dq_dp hd (by simpa [PyData.canLay0] using l1)) ry
        exact SeqAt.in_list_reads g2 g1 l1 (okE_lay k1) hroom ⟨.bl _, H, I, rfl, alc_val q (by simpa using Dq.bl _)⟩
      · obtain ⟨bs, g2⟩ := Dp.reads I (.tuple ds) y u (dq_dp hd (by simpa [PyData.canLay0] using l1)) ry
        exact SeqAt.in_tuple_reads g2 g1 l1 (okE_lay k1) hroom ⟨.bl _, H, I, rfl, alc_val q (by simpa using Dq.bl _)⟩
    · cases hg
  · cases hg
theorem dqa_same {K : PySem.W.Frag} {B H : Hp} (sb : Same B H) {ms : List V} {ds : List D} (d : DqAll K B ms ds) : DqAll K H ms ds := dpa_same sb d
theorem mm_of {ds : List D} (h : mmOk ds = true) : (∀ d ∈ ds, okE d = true) ∧ PySem.W.AlikeAll ds := by
  simp only [mmOk, Bool.and_eq_true] at h
  obtain ⟨⟨o1, o2⟩, o3⟩ := h
  refine ⟨all_ok o1, fun d hd e he => List.all_eq_true.mp (List.all_eq_true.mp o2 d hd) e he, fun d hd => ?_⟩
  have := List.all_eq_true.mp o3 d hd
  rintro rfl
  cases this
/-- the item that was told -/
theorem mm_item {pins : List (Addr × Obj)} {σ : L2.St} {B H : Hp} {s : Shared} (I : Inv X pins σ H s) (sb : Same B H) {ms : List V} {its : List Value} {ds : List D} {d : D} (rv : Vals ms its) (dq : DqAll X.K B ms ds) (hok : ∀ d ∈ ds, okE d = true) (hal : ∀ e ∈ ds, alike e d = true)
    {i : Nat} {v : Value} {h' : Heap} {bs : List Addr} (hv : its.toArray[i]? = some v) (r : Reads h' v d bs) (hk : ∀ b o, s.heap.get? b = some o → h'.get? b = some o) : ∃ y, RelV y v ∧ Dq X.K B y d := by
  have hv : its[i]? = some v := by simpa using hv
  have hi : i < its.length := (List.getElem?_eq_some_iff.mp hv).1
  have hm : i < ms.length := by rw [rv.length]; exact hi
  obtain ⟨u, hu, ru⟩ := rv.get (i := i) (x := ms[i]) (List.getElem?_eq_getElem hm)
  rw [hv] at hu; cases hu
  have hd : i < ds.length := by rw [← dq.length]; exact hm
  obtain ⟨w, hw, dw⟩ := dq.get (i := i) (d := ds[i]) (List.getElem?_eq_getElem hd)
  rw [List.getElem?_eq_getElem hm] at hw; cases hw
  have hmem : ds[i] ∈ ds := List.getElem_mem hd
  obtain ⟨as, r2⟩ := Dp.reads I ds[i] ms[i] v (dq_dp (dp_same sb dw) (okE_lay (hok _ hmem))) ru
  have r3 := PySem.W.reads_keeps hk r2
  have := PySem.W.alike_unique _ _ _ _ _ (hal _ hmem) r3 r
  rw [← this]
  exact ⟨ms[i], ru, dw⟩
theorem minD_mem : ∀ (xs : List D) (x : D), PySem.W.minD x xs ∈ x :: xs := by
  intro xs
  unfold PySem.W.minD
  induction xs with
  | nil => intro x; simp
  | cons y ys ih =>
    intro x
    rw [List.foldl_cons]
    have := ih (if dataLt y x then y else x)
    split at this <;> rename_i hc <;> simp only [hc, if_true, if_false, List.mem_cons] at this ⊢ <;> grind
theorem cd_minL (hc : X.calm = true) (hu : X.A.units + 64 < cLine) : CallD X (.builtin "min") gMinL := by
  intro pins s σ H vs us Q I r ⟨B, as, z, sb, p, hg, q⟩
  unfold gMinL at hg
  split at hg
  · split at hg
    · rename_i x xs e
      split at hg
      · rename_i hok
        cases hg
        cases p with
        | cons p1 p =>
          cases p
          obtain ⟨l, ms, its, rfl, hl, rv, dq, hz⟩ := row_at I sb p1 e
          cases Vals.ref1 r
          obtain ⟨ok, hal⟩ := mm_of hok
          obtain ⟨bs, hr⟩ := dqa_reads I (dqa_same sb dq) rv ok
          have hroom : X.A.units + 1 + PyData.depthAll (x :: xs) < cLine := by have := (lay_all ok).2; omega
          have fin : ∀ (i : Nat) v h' tk bs, its.toArray[i]? = some v → Reads h' v (PySem.W.minD x xs) bs → (∀ b o, s.heap.get? b = some o → h'.get? b = some o) → EP X pins σ Q v { s with heap := h', toks := tk } := fun i v h' tk bs hv r hk => by
            obtain ⟨y, ry, dy⟩ := mm_item I sb rv dq ok (fun e he => hal.1 e he _ (minD_mem _ _)) hv r hk
            exact ⟨y, H, I.kept hk, ry, alc_val q dy⟩
          rcases hl with hl | hl
          · exact PySem.W.min_list_data (I.ok.hd hc) hl (by simpa using hr) hal hroom fin
          · exact PySem.W.min_tuple_data (I.ok.hd hc) hl (by simpa using hr) hal hroom fin
      · cases hg
    · cases hg
  · cases hg
theorem cd_int : CallD X (.type "int") gInt := by
  intro pins s σ H vs us Q I r ⟨B, as, z, sb, p, hg, q⟩
  unfold gInt at hg
  split at hg
  · cases hg
    cases p with
    | cons p1 p =>
      cases p
      cases dp_int p1
      exact call_int1 pins s σ H _ us Q I r (.inl ⟨_, rfl, alc_val q (.int _)⟩)
  · cases hg
    cases p with
    | cons p1 p =>
      cases p
      cases dp_bl p1
      exact call_int1 pins s σ H _ us Q I r (.inr ⟨_, rfl, alc_val q (.int _)⟩)
  · cases hg
end
end DL
end

section
namespace DL
open PySem
end DL
end

section
namespace DL
open PySem
end DL
end

section
namespace DL
open PySem
end DL
end

section
namespace DL
open PySem PySem.Spec PySem.Calls PyProof.Rows L2
open PySem.Sem (wp)
section
variable {prog : Program} {w : World} {A : Around} {E : Value → Shared → Prop} {s : Shared}
end
section
variable {prog : Program} {w : World} {A : Around} {E : Value → Shared → Prop} {s : Shared}
end
section
variable {X : Cx} {W : WX}
end
end DL
end

section
namespace DL
open PySem PySem.Spec PySem.Calls PyProof.Rows L2
section
variable {X : Cx} {W : WX}
end
end DL
end

section
namespace DL
open PySem PySem.Spec PySem.Calls PyProof.Rows L2
section
variable {X : Cx} {W : WX}
end
end DL
end

section
namespace DL
open PySem
end DL
end

section
namespace DL
open PySem PySem.Spec PyProof.Rows L2
section
variable {X : Cx} {W : WX}
end
end DL
end

section
namespace DL
open PySem
def putL (kvs : List (Ky × List D)) (k : Ky) (d : D) : List (Ky × List D) :=
  if kvs.any (fun kv => decide (kv.1 = k)) then kvs.map (fun kv => if kv.1 = k then (kv.1, kv.2 ++ [d]) else kv) else kvs ++ [(k, [d])]
def lookL (kvs : List (Ky × List D)) (n : Int) : List D := ((kvs.find? fun kv => decide (kv.1 = .inl n)).map (·.2)).getD []
def dins (n : Int) : List Int → List Int
  | [] => [n]
  | m :: t => if n < m then n :: m :: t else if n = m then m :: t else m :: dins n t
/-- the numbers, each once, rising -/
def dsort (ns : List Int) : List Int := ns.foldr dins []
def sStuck : S := fun _ => none
def boolR : RV → Option Bool
  | .val (.bool b) => some b
  | _ => none
def mChainT (g' : List Rs → Option RV) (oc : M AV) (b : AV) (k : Bool) : M RV := if k then oc.bind fun c => mFin g' [b, c] else M.ret (.val (.bool false))
def mChain (g g' : List Rs → Option RV) (oa ob oc : M AV) : M RV := oa.bind fun a => ob.bind fun b => fun r => match ((looks2 r [a, b]).bind g).bind boolR with
  | none => none
  | some k => mChainT g' oc b k r
end DL
end

section
namespace DL
open PySem PySem.Spec PyProof.Rows L2
section
variable {K : PySem.W.Frag} {B H H' : Hp} {σ σ' : L2.St} {r : Ro} {O : Addr → Prop}
end
section
variable {X : Cx} {W : WX}
end
end DL
end

section
namespace DL
open PySem PySem.Spec PyProof.Rows L2
section
variable {X : Cx} {W : WX}
end
end DL
end

section
namespace DL
open PySem PySem.Spec PyProof.Rows L2
section
variable {P : Program} {w : World} {A : Around} {E : Value → Shared → Prop} {s : Shared}
end
end DL
end

section
namespace DL
open PySem PySem.Spec PyProof.Rows L2
theorem dins_mem {n k : Int} : ∀ {l : List Int}, k ∈ dins n l ↔ k = n ∨ k ∈ l
  | [] => by simp [dins]
  | m :: t => by
    unfold dins
    split
    · simp
    · split
      · rename_i h; subst h; simp
      · rw [List.mem_cons, dins_mem, List.mem_cons]
        constructor
        · rintro (h | h | h) <;> simp [h]
        · rintro (h | h | h) <;> simp [h]
theorem dins_pw {n : Int} : ∀ {l : List Int}, l.Pairwise (· < ·) → (dins n l).Pairwise (· < ·)
  | [], _ => by simp [dins]
  | m :: t, h => by
    obtain ⟨h1, h2⟩ := List.pairwise_cons.mp h
    unfold dins
    split
    · rename_i q
      refine List.pairwise_cons.mpr ⟨fun k hk => ?_, h⟩
      rcases List.mem_cons.mp hk with rfl | hk
      · exact q
      · have := h1 k hk
        omega
    · split
      · exact h
      · refine List.pairwise_cons.mpr ⟨fun k hk => ?_, dins_pw h2⟩
        rcases dins_mem.mp hk with rfl | hk
        · omega
        · exact h1 k hk
theorem dsort_mem {k : Int} : ∀ {l : List Int}, k ∈ dsort l ↔ k ∈ l
  | [] => by simp [dsort]
  | n :: t => by
    show k ∈ dins n (dsort t) ↔ _
    rw [dins_mem, dsort_mem, List.mem_cons]
theorem dsort_pw : ∀ l : List Int, (dsort l).Pairwise (· < ·)
  | [] => .nil
  | n :: t => dins_pw (dsort_pw t)
theorem dsort_uniq {ns ys : List Int} (h1 : ys.Pairwise (· < ·)) (h2 : ∀ k, k ∈ ys ↔ k ∈ ns) : ys = dsort ns := by
  have nd : ∀ l : List Int, l.Pairwise (· < ·) → l.Nodup := fun l h => by
    rw [List.nodup_iff_pairwise_ne]
    exact h.imp fun h => by omega
  refine List.Perm.eq_of_pairwise (le := (· < ·)) (fun a b _ _ h1 h2 => by omega) h1 (dsort_pw ns) ((List.perm_ext_iff_of_nodup (nd _ h1) (nd _ (dsort_pw ns))).mpr fun k => ?_)
  rw [h2, dsort_mem]
section
variable {X : Cx} {W : WX}
end
end DL
end

section
namespace DL
open PySem PySem.Spec PyProof.Rows L2
section
variable {K : PySem.W.Frag} {B H B' H' : Hp} {σ : L2.St} {r : Ro} {O O' : Addr → Prop}
end
section
variable {X : Cx} {W : WX}
end
end DL
end

section
namespace DL
open PySem PySem.Spec PyProof.Rows L2
section
variable {X : Cx} {W : WX}
theorem ds_stuck {st : Stmt} : DS X W st sStuck := ⟨fun pins s σ H D I ⟨B, r, O, c, o, r', e, p⟩ => by cases e⟩
theorem de_globI {x : Str} {n : Int} {pos : Pos} (hg : Gl X x) (hm : ∃ t, X.mg x = some (.int n t)) (hd : (x == ("__debug__" : Str)) = false := by decide) : DE X W (.Name x pos) (mC (.int n)) := by
  obtain ⟨t, hm⟩ := hm
  exact pe_weak (pe_glob (v := .int n) hg hm ⟨t, rfl⟩ hd) fun σ H Q ⟨B, r, O, c, o, r', e, p⟩ => by
    cases e
    exact p B H O (.int n) .refl c .refl (.int n)
theorem chain_read {g g' : List Rs → Option RV} {oa ob oc : M AV} {σ : L2.St} {H : Hp} {Q : VK} (h : tG (Cx.g X) W (mChain g g' oa ob oc) (rV (Cx.g X)) σ H Q) :
    tChain (fun x y H Q => ∃ B a b z, Same B H ∧ RsR X.K B H a x ∧ RsR X.K B H b y ∧ g [a, b] = some z ∧ ∀ H' v, Alc X.K B H H' z v → Q v H')
      (fun x y H Q => ∃ B a b z, Same B H ∧ RsR X.K B H a x ∧ RsR X.K B H b y ∧ g' [a, b] = some z ∧ ∀ H' v, Alc X.K B H H' z v → Q v H')
      (tG (Cx.g X) W oa (rA (Cx.g X))) (tG (Cx.g X) W ob (rA (Cx.g X))) (tG (Cx.g X) W oc (rA (Cx.g X))) σ H Q := by
  obtain ⟨B, r, O, h⟩ := h
  refine tG.of ((At.bind (R := rA (Cx.g X)) h later_rV).mono ?_)
  rintro x H1 ⟨a, B1, r1, O1, s1, x1, h1⟩
  refine tG.of ((At.bind (R := rA (Cx.g X)) h1 later_rV).mono ?_)
  rintro y H2 ⟨b, B2, r2, O2, s2, x2, c2, o, r', e, p⟩
  simp only at e
  cases q1 : ((looks2 r2 [a, b]).bind g).bind boolR with
  | none => rw [q1] at e; cases e
  | some k =>
    rw [q1] at e
    simp only at e
    obtain ⟨z, q2, q3⟩ := Option.bind_eq_some_iff.mp q1
    obtain ⟨xs, q4, q5⟩ := Option.bind_eq_some_iff.mp q2
    have hz : z = .val (.bool k) := by
      cases z with
      | new c => cases q3
      | val d => cases d with
        | bool b' => cases q3; rfl
        | _ => cases q3
    subst hz
    have px := c2.looks2_ q4 (.cons (x1.same s2.sB) (.cons x2 .nil))
    cases px with
    | cons p1 px => cases px with
      | cons p2 px =>
        cases px
        refine ⟨B2, _, _, _, c2.sub, p1, p2, q5, ?_⟩
        rintro H' v (⟨rfl, hv⟩ | ⟨q, ws, ds, o', _, _, _, ed, _⟩)
        · cases dp_bl hv
          refine ⟨k, rfl, ?_⟩
          cases k with
          | false =>
            cases e
            exact iteF (p B2 H' O2 (.bl false) .refl c2 .refl (.bl false))
          | true =>
            refine iteT (tG.of ((At.bind (m := oc) (f := fun c => mFin g' [b, c]) (R := rA (Cx.g X)) ⟨c2, o, r', e, p⟩ later_rV).mono ?_))
            rintro w H3 ⟨c, B3, r3, O3, s3, x3, h3⟩
            obtain ⟨ys, z2, sb, p3, hg, q6⟩ := h3.fin (.cons (x2.same s3.sB) (.cons x3 .nil))
            cases p3 with
            | cons y1 p3 => cases p3 with
              | cons y2 p3 =>
                cases p3
                exact ⟨B3, _, _, z2, sb, y1, y2, hg, q6⟩
        · cases ed
theorem de_chain {a b c : Expr} {op op' : CmpOp} {pos : Pos} {g g' : List Rs → Option RV} {oa ob oc : M AV} (ho : OpD X (compareOp op) g) (ho' : OpD X (compareOp op') g') (ha : DO X W a oa) (hb : DO X W b ob) (hc : DO X W c oc)
    (hm : lastMarks [op, op'] [b, c] = false := by with_unfolding_all rfl) : DE X W (.Compare a [op, op'] [b, c] pos) (mChain g g' oa ob oc) :=
  pe_weak (pe_chain ho ho' ha hb hc hm) fun σ H Q h => chain_read h
end
end DL
end

section
namespace DL
open PySem PySem.Spec PySem.Calls PyProof.Rows L2
section
variable {K : PySem.W.Frag} {B H : Hp} {σ : L2.St} {r : Ro} {O : Addr → Prop}
theorem get_snoc {α : Type} {l : List α} {x y : α} {i : Nat} (h : (l ++ [x])[i]? = some y) : (i < l.length ∧ l[i]? = some y) ∨ (i = l.length ∧ y = x) := by
  by_cases hi : i < l.length
  · rw [List.getElem?_append_left hi] at h
    exact .inl ⟨hi, h⟩
  · rw [List.getElem?_append_right (by omega)] at h
    by_cases h2 : i = l.length
    · subst h2
      simp at h
      exact .inr ⟨rfl, h.symm⟩
    · rw [List.getElem?_eq_none (by simp; omega)] at h
      cases h
theorem Con.snoc (c : Con K B H σ r O) {ct : Ct} {l : Addr} {F : List Addr} (o : OwnR K B H ct l F) (hF : ∀ a ∈ F, B a = none ∧ ¬ O a) (hn : noAl r r.length = true) :
    Con K B H (σ ++ [some (V.ref l)]) (r ++ [.own false ct]) (fun a => O a ∨ a ∈ F) := by
  have sg : ∀ {i : Nat} {x : Option V}, i < r.length → σ[i]? = some x → (σ ++ [some (V.ref l)])[i]? = some x := fun h e => by
    rw [List.getElem?_append_left (by rw [← c.len]; exact h)]
    exact e
  have sl : (σ ++ [some (V.ref l)])[r.length]? = some (some (V.ref l)) := by
    rw [c.len, List.getElem?_append_right (Nat.le_refl _)]
    simp
  have inv : ∀ {i : Nat} {x : Option V}, i < r.length → (σ ++ [some (V.ref l)])[i]? = some x → σ[i]? = some x := fun h e => by
    rwa [List.getElem?_append_left (by rw [← c.len]; exact h)] at e
  refine ⟨⟨c.sub, fun a h => h.elim (c.off a) fun h => (hF a h).1, fun a h => h.elim (c.liv a) fun h => ownR_some o a h, by simp [c.len], fun i b d e => ?_, fun i b ct' e => ?_, fun i j b c1 b' c2 l1 l2 F1 F2 ne e1 e2 s1 s2 o1 o2 => ?_⟩, fun i j k e b rows l1 as e1 s1 h1 => ?_⟩
  · rcases get_snoc e with ⟨hi, e⟩ | ⟨_, e⟩
    · obtain ⟨v, h1, h2⟩ := c.frz i b d e
      exact ⟨v, sg hi h1, h2⟩
    · cases e
  · rcases get_snoc e with ⟨hi, e⟩ | ⟨rfl, e'⟩
    · obtain ⟨l1, F1, h1, h2, h3⟩ := c.own i b ct' e
      exact ⟨l1, F1, sg hi h1, h2, fun a ha => .inl (h3 a ha)⟩
    · cases e'
      exact ⟨l, F, sl, o, fun a ha => .inr ha⟩
  · rcases get_snoc e1 with ⟨hi, e1⟩ | ⟨rfl, e1'⟩
    · rcases get_snoc e2 with ⟨hj, e2⟩ | ⟨rfl, e2'⟩
      · exact c.sep i j b c1 b' c2 l1 l2 F1 F2 ne e1 e2 (inv hi s1) (inv hj s2) o1 o2
      · cases e2'
        rw [sl] at s2; cases s2
        rw [ownR_uniq o o2 fun _ _ => rfl]
        obtain ⟨l3, F3, g1, g2, g3⟩ := c.own i b c1 e1
        rw [inv hi s1] at g1; cases g1
        rw [ownR_uniq g2 o1 fun _ _ => rfl]
        exact fun a ha hb => (hF a hb).2 (g3 a ha)
    · cases e1'
      rw [sl] at s1; cases s1
      rw [ownR_uniq o o1 fun _ _ => rfl]
      rcases get_snoc e2 with ⟨hj, e2⟩ | ⟨rfl, _⟩
      · obtain ⟨l3, F3, g1, g2, g3⟩ := c.own j b' c2 e2
        rw [inv hj s2] at g1; cases g1
        rw [ownR_uniq g2 o2 fun _ _ => rfl]
        exact fun a ha hb => (hF a ha).2 (g3 a hb)
      · exact absurd rfl ne
  · rcases get_snoc e with ⟨hi, e⟩ | ⟨_, e⟩
    · rcases get_snoc e1 with ⟨hj, e1⟩ | ⟨rfl, _⟩
      · obtain ⟨a, h2, h3⟩ := c.al i j k e b rows l1 as e1 (inv hj s1) h1
        exact ⟨a, h2, sg hi h3⟩
      · exact absurd e (noAl_of hn)
    · cases e
theorem Con.unsnoc {x : Option V} {r3 : Ro} (c : Con K B H (σ ++ [x]) r3 O) : Con K B H σ (r3.take σ.length) O := by
  have hl : r3.length = σ.length + 1 := by rw [c.len]; simp
  have gt : ∀ {i : Nat} {y : Sl}, (r3.take σ.length)[i]? = some y → i < σ.length ∧ r3[i]? = some y := fun {i y} e => by
    have hi := (List.getElem?_eq_some_iff.mp e).1
    have hi : i < σ.length := by rw [List.length_take] at hi; omega
    rw [List.getElem?_take_of_lt hi] at e
    exact ⟨hi, e⟩
  have inv : ∀ {i : Nat} {y : Option V}, i < σ.length → (σ ++ [x])[i]? = some y → σ[i]? = some y := fun h e => by
    rwa [List.getElem?_append_left h] at e
  have sg : ∀ {i : Nat} {y : Option V}, σ[i]? = some y → (σ ++ [x])[i]? = some y := fun {i y} e => by
    have hi := (List.getElem?_eq_some_iff.mp e).1
    rw [List.getElem?_append_left hi]
    exact e
  refine ⟨⟨c.sub, c.off, c.liv, by simp [hl], fun i b d e => ?_, fun i b ct' e => ?_, fun i j b c1 b' c2 l1 l2 F1 F2 ne e1 e2 s1 s2 o1 o2 => ?_⟩, fun i j k e b rows l1 as e1 s1 h1 => ?_⟩
  · obtain ⟨hi, e⟩ := gt e
    obtain ⟨v, h1, h2⟩ := c.frz i b d e
    exact ⟨v, inv hi h1, h2⟩
  · obtain ⟨hi, e⟩ := gt e
    obtain ⟨l1, F1, h1, h2, h3⟩ := c.own i b ct' e
    exact ⟨l1, F1, inv hi h1, h2, h3⟩
  · exact c.sep i j b c1 b' c2 l1 l2 F1 F2 ne (gt e1).2 (gt e2).2 (sg s1) (sg s2) o1 o2
  · obtain ⟨hi, e⟩ := gt e
    obtain ⟨a, h2, h3⟩ := c.al i j k e b rows l1 as (gt e1).2 (sg s1) h1
    exact ⟨a, h2, inv hi h3⟩
end
section
variable {X : Cx} {W : WX}
theorem avs_snoc {K : PySem.W.Frag} {B : Hp} {σ : L2.St} {x : Option V} : ∀ {as : List AV} {vs : List V}, Paired (AvR K B σ) as vs → Paired (AvR K B (σ ++ [x])) as vs
  | _, _, .nil => .nil
  | .val d :: _, _, .cons h t => .cons h (avs_snoc t)
  | .slot i :: _, v :: _, .cons h t => .cons (by
      have h : σ[i]? = some (some v) := h
      have hi := (List.getElem?_eq_some_iff.mp h).1
      show (σ ++ [x])[i]? = some (some v)
      rw [List.getElem?_append_left hi]
      exact h) (avs_snoc t)
end
end DL
end

section
namespace DL
open PySem
end DL
end

section
namespace DL
open PySem PySem.Spec PySem.Calls PyProof.Rows L2
section
variable {K : PySem.W.Frag} {B H : Hp} {σ : L2.St} {r : Ro} {O : Addr → Prop}
end
section
variable {X : Cx} {W : WX}
end
end DL
end

section
namespace DL
open PySem
end DL
end

section
namespace DL
open PySem PySem.Spec PySem.Calls PyProof.Rows L2
section
variable {X : Cx} {W : WX}
end
end DL
end

section
namespace DL
open PySem
end DL
end

section
namespace DL
open PySem PySem.Spec PySem.Calls PyProof.Rows L2
section
variable {K : PySem.W.Frag} {B B' H H' : Hp} {σ : L2.St} {r : Ro} {O : Addr → Prop}
end
section
variable {X : Cx} {W : WX}
end
end DL
end

section
namespace DL
open PySem
end DL
end

section
namespace DL
open PySem PySem.Spec PySem.Calls PyProof.Rows L2
end DL
end

section
namespace DL
open PySem
end DL
end

section
namespace DL
open PySem PySem.Spec PySem.Calls PyProof.Rows L2
end DL
end

section
namespace DL
open PySem
/-- the k-th list's own content behind a call, the last slot's -/
def rowO : Sl → Option (List D)
  | .own _ (.lst ds) => some ds
  | _ => none
def fLend (f : Sem) (j : Nat) (b : Bool) (rows : List (List D)) (k : Nat) (ds : List D) (as : List AV) : M RV := fun r => match looks (r ++ [.own false (.lst ds)]) (.slot r.length :: as) with
  | none => none
  | some xs => if (ownIx (.slot r.length :: as) xs).Nodup ∧ (ownIx (.slot r.length :: as) xs).all (noAl (r ++ [.own false (.lst ds)])) = true ∧ noAl r r.length = true then match f xs with
      | some (.ok rv, ys) => if ys.length = xs.length then
          match ((putBack (r ++ [.own false (.lst ds)]) (.slot r.length :: as) xs ys)[r.length]?).bind rowO with
          | some ds' => if noAl ((putBack (r ++ [.own false (.lst ds)]) (.slot r.length :: as) xs ys).take r.length) j = true then
              some (.ok rv, ((putBack (r ++ [.own false (.lst ds)]) (.slot r.length :: as) xs ys).take r.length).set j (.own b (.ll (rows.set k ds')))) else none
          | none => none
        else none
      | _ => none
    else none
def fCallIx (f : Sem) (j : Nat) (ms : List (M AV)) (a : AV) : M RV := fun r => match r[j]?, (look2 r a).bind Rs.data with
  | some (.own b (.ll rows)), some (.int n) => (ixD rows.length n).bind fun k => rows[k]?.bind fun ds => match oL ms (r.set j .non) with
    | some (.ok as, r2) => fLend f j b rows k ds as r2
    | _ => none
  | _, _ => none
def mCallIx (f : Sem) (j : Nat) (mi : M AV) (ms : List (M AV)) : M RV := fun r => match r[j]? with
  | some (.own _ (.ll _)) => mi.bind (fCallIx f j ms) r
  | _ => none
end DL
end

section
namespace DL
open PySem PySem.Spec PySem.Calls PyProof.Rows L2
section
variable {K : PySem.W.Frag} {B H : Hp} {σ : L2.St} {r : Ro} {O : Addr → Prop}
theorem Con.put (c : Con K B H σ r O) {j : Nat} {b : Bool} {ct : Ct} {l : Addr} {F : List Addr} (hs : σ[j]? = some (some (V.ref l))) (o : OwnR K B H ct l F) (hF : ∀ a ∈ F, B a = none)
    (sep : ∀ (i : Nat) b' c' l' F', i ≠ j → r[i]? = some (Sl.own b' c') → σ[i]? = some (some (V.ref l')) → OwnR K B H c' l' F' → ∀ a ∈ F, a ∉ F') (hn : noAl r j = true) :
    Con K B H σ (r.set j (.own b ct)) (fun a => O a ∨ a ∈ F) :=
  (c.grow fun a ha => ⟨hF a ha, ownR_some o a ha⟩).replace (i := j) (x := .own b ct) rfl (fun _ _ => rfl) ⟨l, F, hs, o, fun a ha => .inr ha, sep⟩ fun _ _ _ => hn
end
section
variable {X : Cx} {W : WX}
theorem oL_len : ∀ {ms : List (M AV)} {r : Ro} {as : List AV} {r' : Ro}, oL ms r = some (.ok as, r') → as.length = ms.length
  | [], r, as, r', e => by cases e; rfl
  | m :: ms, r, as, r', e => by
    unfold oL M.bind at e
    split at e
    · cases e
    · rename_i a r1 q
      simp only [M.bind] at e
      split at e
      · cases e
      · rename_i as2 r2 q2
        cases e
        rw [List.length_cons, oL_len q2, List.length_cons]
      · cases e
    · cases e
theorem de_callIx {k : Nat} {f : Addr} {fd : FuncData} {ps : List Str} {sem : Sem} {x : Str} {p pos spos : Pos} {re ie : Expr} {es : List Expr} {j : Nat} {mi : M AV} {ms : List (M AV)} (tk : L2N.Takes X W)
    (F : FnOk X.prog X.w X.K X.mg X.base (L2N.CX X.prog X.w) k f fd ps (spD X.K X.mg sem ps.length)) (hr : Room k X.A) (hg : Gl X x) (hm : X.mg x = some (.ref f)) (hk : PySem.W.keepIn X.K (.ref f) = true) (hb : Binds X.K fd ps [])
    (hn : ms.length + 1 = ps.length) (ho : PE X re (tVar j)) (hi : DO X W ie mi) (hp : PlainIx ie) (ha : DA X W es (oL ms)) (hdb : (x == ("__debug__" : Str)) = false := by decide)
    (he : starEach (.Subscript re ie spos :: es) X.env = (false, eval (.Subscript re ie spos) X.env) :: starEach es X.env := by rfl) (hpl : (backTo pos (starEach (.Subscript re ie spos :: es) X.env)).any (·.1) = false := by rfl) :
    DE X W (.Call (.Name x p) (.Subscript re ie spos :: es) [] pos) (mCallIx sem j mi ms) := pe_weak (pe_callS F hr hg hm hk hb (fun σ => L2N.passAt tk σ) (pa_cons (pe_ix ix_list ho hi hp) ha he) hdb he hpl) fun σ H Q ⟨B, r, O, c0, o, r', e, p⟩ => by
  have e0 := e
  unfold mCallIx at e
  split at e
  · rename_i b0 rows0 q0
    obtain ⟨l, F0, h1, h2, h3⟩ := c0.own j b0 _ q0
    refine ⟨.ref l, h1, ?_⟩
    have h4 : At (Cx.g X) W (mi.bind (fCallIx sem j ms)) (rV (Cx.g X)) B r O σ H Q := ⟨c0, o, r', e, p⟩
    refine tG.of ((h4.bind (R := rA (Cx.g X)) later_rV).mono ?_)
    rintro z H2 ⟨a, B2, r2, O2, s2, x2, c2, o2, r3, e2, p2⟩
    unfold fCallIx at e2
    split at e2
    · rename_i b rows n q1 q2
      cases q4 : ixD rows.length n with
      | none => rw [q4] at e2; cases e2
      | some k =>
        rw [q4] at e2
        simp only [Option.bind_some] at e2
        cases q7 : rows[k]? with
        | none => rw [q7] at e2; cases e2
        | some ds =>
          rw [q7] at e2
          simp only [Option.bind_some] at e2
          obtain ⟨rs, q5, q6⟩ := Option.bind_eq_some_iff.mp q2
          have rz : z = .int n := rs_int (c2.look2_ q5 x2) q6
          obtain ⟨l', F', g1, o1, g3⟩ := c2.own j b _ q1; have o1c := o1
          obtain ⟨as, rfl, g2, nd, ra⟩ := o1
          rw [h1] at g1; cases g1
          have hlen : as.length = rows.length := ra.length
          obtain ⟨w, ga, vs, g4, g5⟩ := paired_at ra q7
          have hw : w ∈ as := List.mem_of_getElem? ga
          have nL : l ≠ w := fun e => (List.nodup_cons.mp nd).1 (e ▸ hw)
          refine ⟨l, as.map V.ref, n, .ref w, rfl, rz, .of g2, ?_, ?_⟩
          · show (ixN (as.map V.ref).length n).bind _ = _
            rw [List.length_map, hlen, show ixN rows.length n = some k from q4]
            show (as.map V.ref)[k]? = _
            rw [List.getElem?_map, ga]
            rfl
          -- the list of lists hidden
          have ch : Con X.K B2 H2 σ (r2.set j .non) (fun a => O2 a ∧ a ∉ l :: as) := (c2.forget j).shrink (fun a h => h.1) fun i b' ct' l' F' e' s' o' a ha => by
            rcases get_set e' with ⟨_, z⟩ | ⟨ni, e'⟩
            · cases z
            · obtain ⟨l2, F2, k1, k2, k3⟩ := c2.own i b' ct' e'
              rw [s'] at k1; cases k1
              rw [ownR_uniq k2 o' fun _ _ => rfl] at ha
              exact ⟨k3 a ha, fun hb => c2.sep i j b' ct' b _ _ _ F2 _ ni e' q1 s' h1 k2 o1c a ha hb⟩
          refine ⟨B2, _, _, ch, ?_⟩
          cases q8 : oL ms (r2.set j .non) with
          | none => rw [q8] at e2; cases e2
          | some z3 =>
            obtain ⟨o3, r4⟩ := z3
            rw [q8] at e2
            cases o3 with
            | exc x => cases e2
            | ok avs =>
              simp only at e2
              refine ⟨_, _, rfl, ?_⟩
              intro B3 H3 O3 us s3 c3 b3 x3
              have x3 : Paired (AvR X.K B3 σ) avs us := x3
              have fr : ∀ a ∈ l :: as, H2 a ≠ none := ownR_some o1c
              have kF : ∀ a ∈ l :: as, H3 a = H2 a := fun a ha => by
                cases qa : H2 a with
                | none => exact absurd qa (fr a ha)
                | some y => exact s3.keep a y qa fun z => z.2 ha
              have nF : ∀ a ∈ l :: as, B3 a = none := fun a ha => s3.nB a (fr a ha) (fun z => z.2 ha) (c2.off a (g3 a ha))
              have oF : ∀ a ∈ l :: as, ¬ O3 a := fun a ha z => (s3.nO a z).elim (fun z => z.2 ha) (fr a ha)
              have wF : w ∈ l :: as := List.mem_cons_of_mem _ hw
              have hw3 : H3 w = some (.lst vs) := by rw [kF w wF]; exact g4
              have hv3 : DqAll X.K B3 vs ds := dpa_same s3.sB g5
              unfold fLend at e2
              cases q9 : looks (r4 ++ [.own false (.lst ds)]) (.slot r4.length :: avs) with
              | none => rw [q9] at e2; cases e2
              | some xs =>
                rw [q9] at e2
                simp only at e2
                split at e2
                · rename_i nd4
                  cases q10 : sem xs with
                  | none => rw [q10] at e2; cases e2
                  | some z4 =>
                    obtain ⟨o4, ys⟩ := z4
                    rw [q10] at e2
                    cases o4 with
                    | exc x => cases e2
                    | ok rv =>
                      simp only at e2
                      split at e2
                      · rename_i hl
                        split at e2
                        · rename_i ds' q11
                          split at e2
                          · rename_i hna
                            cases e2
                            have c' := c3.snoc (ct := .lst ds) (l := w) (F := [w]) ⟨rfl, vs, hw3, hv3⟩ (fun a ha => by simp at ha; subst ha; exact ⟨nF _ wF, oF _ wF⟩) nd4.2.2
                            have xx : Paired (AvR X.K B3 (σ ++ [some (V.ref w)])) (.slot r4.length :: avs) (V.ref w :: us) := .cons (by
                              show (σ ++ [some (V.ref w)])[r4.length]? = some (some (V.ref w))
                              rw [c3.len, List.getElem?_append_right (Nat.le_refl _)]
                              simp) (avs_snoc x3)
                            refine ⟨by rw [List.length_cons, ← x3.length, oL_len q8]; exact hn, B3, _, xs, call_in c' q9 xx nd4.1, .ok rv, ys, q10, hl, ?_⟩
                            intro B' H' O' v s4 c4 x4
                            obtain ⟨O5, s5, c5, b5, ho⟩ := call_out c' q9 xx nd4.1 nd4.2.1 hl s4 c4
                            obtain ⟨sl, q12, q13⟩ := Option.bind_eq_some_iff.mp q11
                            obtain ⟨b6, rfl⟩ : ∃ b6, sl = .own b6 (.lst ds') := by
                              cases sl with
                              | own b6 c6 =>
                                cases c6 with
                                | lst z => cases q13; exact ⟨b6, rfl⟩
                                | _ => cases q13
                              | _ => cases q13
                            have hsw : (σ ++ [some (V.ref w)])[r4.length]? = some (some (V.ref w)) := by
                              rw [c3.len, List.getElem?_append_right (Nat.le_refl _)]
                              simp
                            obtain ⟨w2, F2, k1, k2, k3⟩ := c5.own _ _ _ q12
                            rw [hsw] at k1; cases k1
                            have k2c := k2
                            obtain ⟨rfl, vs', k4, k5⟩ := k2
                            have c6 := c5.unsnoc
                            rw [← c3.len] at c6
                            -- what of the list of lists was not lent stays
                            have not5 : ∀ a ∈ l :: as, a ≠ w → ¬ O5 a := fun a ha ne z => by
                              rcases s5.nO a z with (z | z) | z
                              · exact oF a ha z
                              · simp at z; exact ne z
                              · rw [kF a ha] at z; exact fr a ha z
                            have kp : ∀ a ∈ l :: as, a ≠ w → H' a = H2 a := fun a ha ne => by
                              cases qa : H2 a with
                              | none => exact absurd qa (fr a ha)
                              | some y => exact s5.keep a y (by rw [kF a ha]; exact qa) fun z => z.elim (oF a ha) fun z => by simp at z; exact ne z
                            have bn : ∀ a ∈ l :: as, B' a = none := fun a ha => by
                              by_cases ne : a = w
                              · subst ne; exact c5.off _ (k3 _ (by simp))
                              · exact s5.nB a (by rw [kF a ha]; exact fr a ha) (fun z => z.elim (oF a ha) fun z => by simp at z; exact ne z) (nF a ha)
                            have sB' : Same B2 B' := s3.sB.trans s5.sB
                            have ra0 : RowsAt X.K B' (upd H2 w (.lst vs')) as (rows.set k ds') := by
                              have := rows_set (K := X.K) (B := B') (xs' := vs') (rowsAt_same sB' ra fun _ _ => rfl) ga (List.nodup_cons.mp nd).2 k5
                              exact this
                            have ra' : RowsAt X.K B' H' as (rows.set k ds') := rowsAt_same (Same.refl _) ra0 fun a ha => by
                              by_cases ne : a = w
                              · subst ne; rw [upd_same]; exact k4
                              · rw [upd_ne ne]; exact kp a (List.mem_cons_of_mem _ ha) ne
                            have own' : OwnR X.K B' H' (.ll (rows.set k ds')) l (l :: as) := ⟨as, rfl, by rw [kp l (List.mem_cons_self ..) nL]; exact g2, nd, ra'⟩
                            have c7 := c6.put (b := b) h1 own' bn (fun i b' ct' l' F' ni ei si oi a ha hb => by
                              have hi := (List.getElem?_eq_some_iff.mp ei).1
                              have hi : i < r4.length := by rw [List.length_take] at hi; omega
                              rw [List.getElem?_take_of_lt hi] at ei
                              have si' : (σ ++ [some (V.ref w)])[i]? = some (some (V.ref l')) := by rw [List.getElem?_append_left (by rw [← c3.len]; exact hi)]; exact si
                              by_cases ne : a = w
                              · subst ne
                                exact c5.sep i r4.length b' ct' _ _ _ _ F' _ (by omega) ei q12 si' hsw oi k2c _ hb (by simp)
                              · obtain ⟨l9, F9, y1, y2, y3⟩ := c5.own i b' ct' ei
                                rw [si'] at y1; cases y1
                                rw [ownR_uniq oi y2 fun _ _ => rfl] at y3
                                exact not5 a ha ne (y3 a hb)) hna
                            have s45 : Step B2 H2 O2 B' H' (fun a => O5 a ∨ a ∈ l :: as) := by
                              refine ⟨sB', fun a y hy hn => ?_, fun a h => s5.live a (s3.live a h), fun a h1' h2' h3' => ?_, fun a h => ?_⟩
                              · refine s5.keep a y (s3.keep a y hy fun z => hn z.1) fun z => ?_
                                rcases z with z | z
                                · exact (s3.nO a z).elim (fun z => hn z.1) (by rw [hy]; simp)
                                · simp at z; subst z; exact hn (g3 _ wF)
                              · refine s5.nB a (s3.live a h1') (fun z => ?_) (s3.nB a h1' (fun z => h2' z.1) h3')
                                rcases z with z | z
                                · exact (s3.nO a z).elim (fun z => h2' z.1) h1'
                                · simp at z; subst z; exact h2' (g3 _ wF)
                              · rcases h with h | h
                                · rcases s5.nO a h with (h | h) | h
                                  · rcases s3.nO a h with h | h
                                    · exact .inl h.1
                                    · exact .inr h
                                  · simp at h; subst h; exact .inl (g3 _ wF)
                                  · by_cases q : H2 a = none
                                    · exact .inr q
                                    · exact absurd h (s3.live a q)
                                · exact .inl (g3 a h)
                            have hj2 : j < r2.length := (List.getElem?_eq_some_iff.mp q1).1
                            have l24 : r4.length = r2.length := by rw [c3.len, c2.len]
                            have bor : Bor r2 σ (((putBack (r4 ++ [.own false (.lst ds)]) (.slot r4.length :: avs) xs ys).take r4.length).set j (.own b (.ll (rows.set k ds')))) σ := fun i y hy py => by
                              refine ⟨?_, rfl⟩
                              have hi := (List.getElem?_eq_some_iff.mp hy).1
                              by_cases ij : i = j
                              · subst ij
                                rw [q1] at hy; cases hy
                                exact ⟨_, List.getElem?_set_self (by rw [List.length_take, putBack_len, List.length_append]; omega), py⟩
                              · obtain ⟨⟨y1, m1, m2⟩, _⟩ := b3 i y (by rw [List.getElem?_set_ne (Ne.symm ij)]; exact hy) py
                                obtain ⟨⟨y2, m3, m4⟩, _⟩ := b5 i y1 (by rw [List.getElem?_append_left (by omega)]; exact m1) m2
                                exact ⟨y2, by rw [List.getElem?_set_ne (Ne.symm ij), List.getElem?_take_of_lt (by omega)]; exact m3, m4⟩
                            refine p2 B' H' _ v s45 c7 bor (later_rV H2 H3 B' H' _ σ rv v s3.live ?_)
                            cases rv with
                            | val d => exact x4
                            | new ct' =>
                              obtain ⟨l'', F2, e1, o3, hF3⟩ := x4
                              refine ⟨l'', F2, e1, o3, fun a ha => ⟨(hF3 a ha).1, (hF3 a ha).2.1, fun z => ?_⟩⟩
                              rcases z with z | z
                              · rcases ho a z with z | z
                                · exact c'.liv a z (hF3 a ha).1
                                · exact (hF3 a ha).2.2 z
                              · have := (hF3 a ha).1
                                rw [kF a z] at this
                                exact fr a z this
                          · cases e2
                        · cases e2
                      · cases e2
                · cases e2
    · cases e2
  · cases e
end
end DL
end

section
namespace DL
open PySem
def fIndexO (i : Nat) (b : AV) : M RV := fun r => match (listAt r i).bind intsD, (look2 r b).bind Rs.data with
  | some ns, some (.int y) => (ns.findIdx? (· == y)).map fun k => (.ok (.val (.int (k : Nat))), r)
  | _, _ => none
def mIndexO (i : Nat) (me : M AV) : M RV := fun r => match listAt r i with
  | none => none
  | some _ => me.bind (fIndexO i) r
end DL
end

section
namespace DL
open PySem PySem.Spec PySem.Calls PyProof.Rows L2
section
variable {X : Cx} {W : WX}
theorem de_indexO {o e : Expr} {apos cpos : Pos} {i : Nat} {me : M AV} (ho : PE X o (tVar i)) (he : DO X W e me)
    (hbase : attributeBase o "index" X.env (eval o X.env) = eval o X.env := by rfl)
    (hfew : ((backTo cpos (starEach [e] X.env)).all (fun x => !x.1) && (backToKw cpos (keywordEach [] X.env)).all (fun x => x.1.isSome)
      && decide ([e].length + ([] : List Keyword).length + (if ([] : List Keyword).isEmpty then 0 else 1) < 30)) = true := by rfl)
    (hline : (apos.endLine == cpos.line) = true := by rfl) (hs : starEach [e] X.env = (false, eval e X.env) :: starEach [] X.env := by rfl) (hplain : (backTo cpos (starEach [] X.env)).any (·.1) = false := by rfl) :
    DE X W (.Call (.Attribute o "index" apos) [e] [] cpos) (mIndexO i me) :=
  pe_weak (pe_bm PySem.F.plainAttrs_list PySem.F.slot_list_index PySem.F.type_list_index mt_index ho (da_cons he da_nil hs) hbase hfew hline hs hplain) fun σ H Q ⟨B, r, O, c, o, r', e, p⟩ => by
  unfold mIndexO at e
  split at e
  · cases e
  · rename_i ds q
    obtain ⟨l, ys, h1, h2, h3, h4⟩ := c.mut q
    refine ⟨.ref l, h1, .inl ⟨rfl, ys, .of h2⟩, ?_⟩
    have h5 : At (Cx.g X) W (me.bind (fIndexO i)) (rV (Cx.g X)) B r O σ H Q := ⟨c, o, r', e, p⟩
    rw [← oL_one me (fIndexO i) (M.of none)] at h5
    refine tG.of ((h5.bind later_rV (R := rL (Cx.g X))).mono ?_)
    rintro vs H2 ⟨bs, B2, r2, O2, s2, x2, h6⟩
    split at h6
    · rename_i b
      obtain ⟨c2, o2, r3, e2, p2⟩ := h6
      unfold fIndexO at e2
      split at e2
      · rename_i ns y q1 q2
        cases qk : ns.findIdx? (· == y) with
        | none => rw [qk] at e2; cases e2
        | some k =>
          rw [qk] at e2
          cases e2
          cases x2 with
          | cons xb t =>
            cases t
            obtain ⟨rs, q3, q4⟩ := Option.bind_eq_some_iff.mp q2
            have hy := rs_int (c2.look2_ q3 xb) q4
            subst hy
            obtain ⟨ds2, q5, q6⟩ := Option.bind_eq_some_iff.mp q1
            obtain ⟨l2, ys2, g1, g2, g3, g4⟩ := c2.mut q5
            rw [h1] at g1; cases g1
            have hns := ints_dq q6 g3
            subst hns
            obtain ⟨f1, f2⟩ := find_facts qk
            refine ⟨l, _, .int y, k, .int y, rfl, rfl, .of g2, rfl, flat_ints ns, by rw [List.getElem?_map, f1]; rfl, by show (y == y) = true; simp, fun m z' hm hz => ?_, p2 B2 H2 O2 _ .refl c2 .refl (.int _)⟩
            rw [List.getElem?_map] at hz
            cases qz : ns[m]? with
            | none => rw [qz] at hz; cases hz
            | some w => rw [qz] at hz; cases hz; exact f2 m w hm qz
      · cases e2
    · exact h6.no.elim
end
end DL
end

section
namespace DL
open PySem
def sRaise (cls : String) : S := fun r => some (.exc ⟨cls, none⟩, r)
end DL
end

section
namespace DL
open PySem PySem.Spec PySem.Calls PyProof.Rows L2
section
variable {X : Cx} {W : WX}
/-- what the written part says of an own class of exceptions -/
structure ExK (K : PySem.W.Frag) (mg : Str → Option Value) (x : String) (C : Addr) : Prop where
  gC : mg (Str.ofString x) = some (.ref C)
  q : PySem.W.excIn K C [.type "ValueError", .type "Exception", .type "BaseException", .type "object"] "ValueError.__new__" = true
  kC : PySem.W.keepIn K (.ref C) = true
  b : PySem.W.subIn K (.ref C) (.type "BaseException") = some true
  t : PySem.W.typeIn K (.ref C) = some (.type "type")
def DEx (X : Cx) (W : WX) (i : Nat) (a : Addr) (e : Expr) (m : M RV) : Prop := PE X e (fun σ H Q => σ[i]? = some (some (V.ref a)) ∧ tG (Cx.g X) W m (rV (Cx.g X)) σ H Q)
def DAx (X : Cx) (W : WX) (i : Nat) (a : Addr) (es : List Expr) (m : M (List AV)) : Prop := PA X es (fun σ H Q => σ[i]? = some (some (V.ref a)) ∧ tG (Cx.g X) W m (rL (Cx.g X)) σ H Q)
theorem dax_nil {i : Nat} {a : Addr} : DAx X W i a [] (oL []) := pa_weak da_nil fun σ H Q h => h.2
theorem dax_cons {i : Nat} {a : Addr} {e : Expr} {es : List Expr} {m : M RV} {ms : List (M AV)} (h : DEx X W i a e m) (t : DAx X W i a es (oL ms)) (hs : starEach (e :: es) X.env = (false, eval e X.env) :: starEach es X.env := by rfl) : DAx X W i a (e :: es) (oL (oE m :: ms)) := pa_weak (pa_cons h t hs) fun σ H Q ⟨hi, B, r, O, h⟩ => by
  have h1 : At (Cx.g X) W (oE m) (rA (Cx.g X)) B r O σ H fun x H1 => ∃ a1 B1 r1 O1, Step B H O B1 H1 O1 ∧ AvR X.K B1 σ a1 x ∧ At (Cx.g X) W ((oL ms).bind fun as => M.ret (a1 :: as)) (rL (Cx.g X)) B1 r1 O1 σ H1 Q := h.bind later_rL (R := rA (Cx.g X))
  refine ⟨hi, ?_⟩
  -- the operand
  obtain ⟨c, o, r', e1, p⟩ := h1
  refine ⟨B, r, O, c, ?_⟩
  unfold oE M.bind at e1
  cases q : m r with
  | none => rw [q] at e1; cases e1
  | some z =>
    obtain ⟨o1, r1⟩ := z
    rw [q] at e1
    refine ⟨o1, r1, rfl, ?_⟩
    cases o1 with
    | exc x => cases e1; exact p
    | ok rv =>
      simp only [M.of] at e1
      cases qd : rv.data with
      | none => rw [qd] at e1; cases e1
      | some d =>
        rw [qd] at e1
        cases e1
        intro B1 H1 O1 v s1 c1 b1 x1
        obtain ⟨B2, s2, c2, dp, _⟩ := c1.frozen s1 x1 qd
        obtain ⟨a1, B3, r3, O3, s3, x3, h2⟩ := p B2 H1 O1 v s2 c2 b1 dp
        refine ⟨hi, tG.of ((h2.bind later_rL (R := rL (Cx.g X))).mono ?_)⟩
        rintro xs H2 ⟨as, B4, r4, O4, s4, x4, h3⟩
        exact h3.ret (Paired.cons (x3.same s4.sB) x4)
theorem dex_lst {i : Nat} {a : Addr} {es : List Expr} {pos : Pos} {ms : List (M AV)} (h : DAx X W i a es (oL ms)) : DEx X W i a (.List es pos) (mOp gLst ms) := pe_weak (pe_lst h) fun σ H Q ⟨hi, B, r, O, h⟩ => by
  refine ⟨hi, tG.of (h.ops.mono ?_)⟩
  rintro vs H1 ⟨B1, xs, z, sb, p, hg, q⟩
  unfold gLst at hg
  obtain ⟨ds, e1, e2⟩ := Option.bind_eq_some_iff.mp hg
  split at e2
  · rename_i hl
    cases e2
    have d := dataAll_of e1 p
    exact ⟨by rw [d.length, ← line_eq]; exact hl, alc_lst q d⟩
  · cases e2
end
end DL
end

section
namespace DL
open PySem PySem.Spec PySem.Calls PyProof.Rows L2
section
variable {X : Cx} {W : WX}
/-- isinstance(e, C) -/
theorem dex_isi {a D : Addr} {oe : Obj} {pn : List (Addr × Obj)} {i : Nat} {n T : Str} {c : V} {cv : Value} {b : Bool} {p p1 p2 pos : Pos} (C : ExcC X.K D) (hz : L2N.Zn (.ref D) none oe) (hf : ∃ vs, oe.data = .fields vs)
    (hg : Gl (X.suite a ((a, oe) :: pn)) "isinstance") (hm : X.mg "isinstance" = none) (ho : PE (X.suite a ((a, oe) :: pn)) (.Name n p1) (tVar i)) (hT : PE (X.suite a ((a, oe) :: pn)) (.Name T p2) (tC c)) (hc : ClsV c cv) (hk : PySem.W.kitOne X.K (.ref D) cv = some b)
    (h1 : starEach [.Name n p1, .Name T p2] X.env = (false, eval (.Name n p1) X.env) :: starEach [.Name T p2] X.env := by rfl) (h2 : starEach [.Name T p2] X.env = (false, eval (.Name T p2) X.env) :: starEach [] X.env := by rfl)
    (hpl : (backTo pos (starEach [.Name T p2] X.env)).any (·.1) = false := by rfl) (hv : bootBuiltins "isinstance" = some (.builtin "isinstance") := by decide +kernel) :
    DEx (X.suite a ((a, oe) :: pn)) W i a (.Call (.Name "isinstance" p) [.Name n p1, .Name T p2] [] pos) (mC (.bool b)) :=
  pe_weak (pe_callB (X := X.suite a ((a, oe) :: pn)) (call_isE C hz.zc hf) hg hm hv (pa_cons ho (pa_cons hT pa_nil h2) h1) (by decide) (by decide) h1 hpl) fun σ H Q ⟨hi, B, r, O, h⟩ =>
    ⟨.ref a, hi, c, cv, b, rfl, fun u hu => (hc.eq hu), hk, h.ret (Dq.bl b)⟩
theorem kit_ref {K : PySem.W.Frag} {D T : Addr} {b : Bool} (hs : PySem.W.subIn K (.ref D) (.ref D) = some true) (hd : PySem.W.hasDictIn K T = true) (ht : PySem.W.typeIn K (.ref T) = some (.type "type")) (h : PySem.W.subIn K (.ref D) (.ref T) = some b) : PySem.W.kitOne K (.ref D) (.ref T) = some b := by
  unfold PySem.W.kitOne
  by_cases e : D = T
  · subst e
    rw [hs] at h
    cases h
    rw [if_pos (by simp)]
  · rw [if_neg (by simpa using e)]
    obtain ⟨cd, hc, _⟩ := PySem.W.any_some hd
    unfold PySem.W.kitCls
    simp only
    rw [hc, ht, if_pos (by rfl)]
    exact h
theorem kit_bty {K : PySem.W.Frag} {D : Addr} {T : String} {b : Bool} (hm : PySem.W.kitMeta T = true) (h : PySem.W.subIn K (.ref D) (.type T) = some b) : PySem.W.kitOne K (.ref D) (.type T) = some b := by
  unfold PySem.W.kitOne
  rw [if_neg (by simp)]
  unfold PySem.W.kitCls
  simp only
  rw [if_pos hm]
  exact h
end
end DL
end

section
namespace DL
open PySem
end DL
end

section
namespace DL
open PySem PySem.Spec PySem.Calls PyProof.Rows L2
section
variable {X : Cx} {W : WX}
end
end DL
end

section
namespace DL
open PySem
end DL
end

section
namespace DL
open PySem PySem.Spec PySem.Calls PyProof.Rows L2
section
variable {X : Cx} {W : WX}
end
end DL
end

section
namespace DL
open PySem
end DL
end

section
namespace DL
open PySem PySem.Spec PySem.Calls PyProof.Rows L2 RT
section
variable {X : Cx} {W : WX}
end
end DL
end

section
namespace DL
open PySem
end DL
end

section
namespace DL
open PySem PySem.Spec PySem.Calls PyProof.Rows L2
section
variable {X : Cx}
end
end DL
end

section
namespace DL
open PySem
end DL
end

section
namespace DL
open PySem PySem.Spec PySem.Calls PyProof.Rows L2 RT
section
variable {X : Cx} {W : WX}
end
end DL
end

section
namespace DL
open PySem
/-- lists and tuples alone: they lie on the heap -/
def isRow : D → Bool
  | .list _ => true
  | .tuple _ => true
  | _ => false
def shOk (d : D) : Bool := isRow d && okE d && PyData.showable d && PyData.leavesShort 13 d && decide (PyData.weight d ≤ 2 ^ 20)
def gNeS : List Rs → Option RV
  | [a, b] => match a.data, b.data with
    | some (.str x), some (.str y) => some (.val (.bool (x.cps.toList != y.cps.toList)))
    | _, _ => none
  | _ => none
end DL
namespace DL
open PySem
end DL
end

section
namespace DL
open PySem PySem.Spec PyProof.Rows L2
section
variable {X : Cx} {W : WX}
theorem dq_str {K : PySem.W.Frag} {H : Hp} {v : V} {x : Str} (h : Dq K H v (.str x)) : v = .str x := by
  generalize e : (PyData.str x : D) = d at h
  cases h with
  | str y => cases e; rfl
  | scr s h => rw [h] at e; cases e
  | fn s h => rw [h] at e; cases e
  | _ => cases e
theorem od_neS : OpD X (compareOp .NotEq) gNeS := by
  intro pins s σ H x y v u Q I rx ry ⟨B, a, b, z, sb, r1, r2, hg, q⟩
  unfold gNeS at hg
  simp only at hg
  split at hg
  · rename_i x y e1 e2
    cases hg
    cases dq_str (rs_dp sb r1 e1)
    cases dq_str (rs_dp sb r2 e2)
    obtain ⟨t, rfl⟩ := rx
    obtain ⟨t', rfl⟩ := ry
    exact P.ne_str ⟨.bl _, H, I, rfl, alc_val q (.bl _)⟩
  · cases hg
end
end DL
end

section
namespace DL
open PySem PySem.Spec PySem.Calls PyProof.Rows L2
section
variable {X : Cx} {W : WX}
theorem two_L {mg : Str → Option Value} {P : String → Addr → Prop} {x y : String} {C D : Addr} (gC : mg (Str.ofString x) = some (.ref C)) (gD : mg (Str.ofString y) = some (.ref D)) (h : P x C) (h2 : P y D) :
    ∀ n ∈ [x, y], ∀ C', mg (Str.ofString n) = some (.ref C') → P n C' := fun n hn C' hC => by
  rcases List.mem_cons.mp hn with rfl | hn
  · rw [gC] at hC
    cases hC
    exact h
  · cases List.mem_singleton.mp hn
    rw [gD] at hC
    cases hC
    exact h2
end
end DL
end

section
namespace DL
open PySem
end DL
end

section
namespace DL
open PySem PySem.Spec PyProof.Rows L2
section
variable {K : PySem.W.Frag} {B H : Hp}
end
section
variable {X : Cx} {W : WX} {pins : List (Addr × Obj)} {σ : L2.St} {H : Hp} {s : Shared}
end
end DL
end

section
namespace DL
open PySem
end DL
end

section
namespace DL
open PySem PySem.Spec PyProof.Rows L2
section
variable {X : Cx} {W : WX}
end
end DL
end

section
namespace DL
open PySem
end DL
end

section
namespace DL
open PySem PySem.Spec PyProof.Rows L2
section
variable {X : Cx} {W : WX}
end
end DL
end

section
namespace DL
open PySem
end DL
end

section
namespace DL
open PySem PySem.Spec PyProof.Rows L2
section
variable {X : Cx}
end
end DL
end

section
namespace DL
open PySem
end DL
namespace DL
open PySem
end DL
end

section
namespace DL
open PySem PySem.Spec PyProof.Rows L2
section
variable {X : Cx}
end
end DL
namespace DL
open PySem PySem.Spec PyProof.Rows L2
section
variable {X : Cx}
end
end DL
end

section
namespace DL
open PySem PySem.Spec PyProof.Rows L2
/-- the law's promise -/
theorem law_sp {K : PySem.W.Frag} {mg : Str → Option Value} {sem : Sem} {m : Nat} (h : ∀ ns : List Int, ns.length ≤ m → ∃ ys, ys.length = 1 ∧ sem [.fz (scrD ns)] = some (.ok (.val (.bool true)), ys))
    (H : Hp) (a : Addr) (ns : List Int) (hl : ns.length ≤ m) (hS : SqL K H a (ns.map V.int)) : spD K mg sem 1 [.ref a] H (fun v _ => v = .bl true) fun _ _ _ => False := by
  obtain ⟨ys, hy, e⟩ := h ns hl
  refine ⟨rfl, H, fun _ => False, [.fz (scrD ns)], ⟨⟨Same.refl _, fun _ h => h.elim, fun _ h => h.elim, rfl, fun i b d h => ?_, fun i b c h => ?_, fun i j b c b' c' l l' F F' _ h => ?_⟩, fun i j k h => ?_⟩, _, ys, e, hy, ?_⟩
  · cases i with
    | zero => cases h; exact ⟨.ref a, rfl, .scr hS rfl⟩
    | succ i => simp at h
  · cases i with
    | zero => cases h
    | succ i => simp at h
  · cases i with
    | zero => cases h
    | succ i => simp at h
  · cases i with
    | zero => cases h
    | succ i => simp at h
  · exact fun B' H' O' v _ _ x => dp_bl x
theorem cx_no {P : Program} {w : World} {H : Hp} {s s' : Shared} {e : Value} (h : L2N.CX P w [] H s (fun _ _ _ => False) e s') : False := by
  obtain ⟨_, _, _, _, _, _, _, _, _, _, _, _, z⟩ := h
  exact z
end DL
end

section
namespace DL
open PySem PySem.Spec PyProof.Rows L2
/-- what a def keeps at one around -/
def FnAt (P : Program) (w : World) (K : PySem.W.Frag) (mg : Str → Option Value) (base : Heap) (A : Around) (f : Addr) (fd : FuncData) (ps : List Str) (sp : Sp) : Prop :=
  ∀ (st : List Env) (s : Shared) (H : Hp) (as : Args) (us : List Value) (vs : List V) (Q : VK) (E : XK), Env0 P w K mg base A st s H → BindsTo s fd as (ps.zip us) → Vals vs us → sp vs H Q E →
    codeAny (model P w) A (.call (.ref f) as) (CR (L2N.CX P w) st P w H s Q E) s
theorem def_at {P : Program} {w : World} {K : PySem.W.Frag} {mg : Str → Option Value} {base : Heap} {x qual : Str} {st : Stmt} {f : Addr} {fd : FuncData} {N ps : List Str} {k : Nat} {body : S} {A : Around} (hr : Room (k + 1) A) (hG : A.guards = some [])
    (F : Fun K x qual st f fd) (Sc : FnScope N ps (defScope st)) (hn : ps.length ≤ N.length)
    (hb : ∀ (cdv : Value) (B : Around) (st' : List Env) (s : Shared) (H : Hp) (E : XK), Room k (B.deeper (envOfC qual (defScope st) s.heap.objs.size f cdv)) → (B.deeper (envOfC qual (defScope st) s.heap.objs.size f cdv)).guards = some [] →
      L2N.Takes (cxOf (L2N.CX P w) P w K mg base N qual (defScope st) f cdv B st' s H E) (fun c d _ H => E c d H) →
      DSs (cxOf (L2N.CX P w) P w K mg base N qual (defScope st) f cdv B st' s H E) (fun c d _ H => E c d H) (defBody st) body) :
    FnAt P w K mg base A f fd ps (spD K mg (defSem ps.length N.length body) ps.length) := by
  obtain ⟨c1, c2, kw, c3, c4, c5, cv, c6, c7, rfl, hf, hc⟩ := F.ex
  intro stk s H as us vs Q E env bnd rel hsp
  have here : ∀ b o, base.get? b = some o → s.heap.get? b = some o := fun b o e => (env.bs b o e).1
  have KH : K.In s.heap := env.mod.kin.keeps here
  have free : s.heap.NoLimit := env.mod.nolimit.keeps here
  have kinds : ∀ p ∈ ps.zip us, (defScope st).names.lookup p.1 = some .local ∨ ((defScope st).names.lookup p.1 = some .cell ∧ ((cellsFrom (s.heap.objs.size + 1) (defScope st).names []).lookup p.1).isSome = true) := by
    rintro ⟨n, v⟩ hp
    exact (Sc.par n (List.of_mem_zip hp).1).imp id fun q => ⟨q, PySem.W.cellsFrom_some _ _ _ (.inl q)⟩
  refine codeAny_call_function hr.depth (KH _ _ hf) rfl Sc.co Sc.gen rfl (PySem.W.codeRec_of KH hc) (bnd _ _ _ _ (wpAny_newFunctionEnv_cells Sc.kind kinds fun en hen s1 new => ?_))
  cases hen
  refine ⟨free.keeps new.toInCall.keep, codeAny_func ?_⟩
  have D := hb cv A stk s H E (hr.deeper _) hG (L2N.takes_of rfl rfl rfl rfl)
  have I0 := inv_start (CX := L2N.CX P w) (E := E) Sc hr.hd env hsp.1 rel new
  refine wpAny_mono (D.run [] s1 (start N vs) H _ I0 (def_read hn hsp)) (fun o s2 ho => ?_) fun _ _ h => h
  cases o with
  | next =>
    obtain ⟨σ2, H2, I2, q⟩ := ho
    exact ⟨.non, H2, I2.os, I2.bare, I2.base, I2.hok, rfl, q⟩
  | ret u =>
    obtain ⟨v, σ2, H2, I2, rv, q⟩ := ho
    exact ⟨v, H2, I2.os, I2.bare, I2.base, I2.hok, rv, q⟩
  | brk => exact ho.elim fun _ h => h.elim fun _ h => h.2.elim
  | cont => exact ho.elim fun _ h => h.elim fun _ h => h.2.elim
/-- a law's def asked at the top: nothing is told of the heap but the script -/
theorem ask_law {P : Program} {w : World} {K : PySem.W.Frag} {mg mb : Str → Option Value} {fa a : Addr} {fd : FuncData} {x : Str} {sp : Sp} {s : Shared} {vs : List Value} {ns : List Int}
    (KX : K.In s.heap) (n1 : s.heap.Ns mainGlobals mg) (n2 : s.heap.Ns builtinsNs mb) (n3 : ∀ x : Str, x ≠ "__name__" → mb x = bootBuiltins x) (n4 : s.heap.NoLimit) (hg : s.gens = #[])
    (ha : s.heap.get? a = some { cls := .type "list", data := .seq vs.toArray }) (hi : IntsAre vs ns) (hl : ns.length ≤ sizeLine)
    (F : ∀ base : Heap, K.In base → base.Ns mainGlobals mg → FnAt P w K mg base callerA fa fd [x] sp) (hb : ∀ (s : Shared) (u : Value), BindsTo s fd ⟨[u], []⟩ [(x, u)])
    (hsp : ∀ H : Hp, SqL K H a (ns.map V.int) → sp [.ref a] H (fun v _ => v = .bl true) fun _ _ _ => False) :
    codeAny (model P w) callerA (.call (.ref fa) ⟨[.ref a], []⟩) (fun r s' => r = .ok (.ret (.bool true)) ∧ OldK s.heap s'.heap ∧ s'.os = s.os ∧ AllBare s'.gens) s := by
  have vals := vals_ints hi
  let scr : HO := .frz { cls := .type "list", data := .seq vs.toArray } (.lst (ns.map V.int))
  suffices go : ∀ H : Hp, (∀ b u, H b = some u → b = a ∧ u = scr ∧ K.lookup a = none) → SqL K H a (ns.map V.int) →
      codeAny (model P w) callerA (.call (.ref fa) ⟨[.ref a], []⟩) (fun r s' => r = .ok (.ret (.bool true)) ∧ OldK s.heap s'.heap ∧ s'.os = s.os ∧ AllBare s'.gens) s by
    cases hk : K.lookup a with
    | none =>
      refine go (fun b => if b = a then some scr else none) (fun b u e => ?_) (.inl (.inr ⟨_, if_pos rfl⟩))
      by_cases q : b = a
      · rw [if_pos q] at e
        cases e
        exact ⟨q, rfl, hk⟩
      · rw [if_neg q] at e
        cases e
    | some o =>
      have e := ha.symm.trans (KX a o hk)
      cases e
      refine go (fun _ => none) (fun _ _ h => by cases h) (.inr ⟨_, vs.toArray, _, hk, rfl, rfl, rfl, ?_, by simpa using vals⟩)
      rw [List.size_toArray, hi.length]
      exact hl
  intro H hH sq
  have okH : HOk P w H s.heap := fun b u e => by
    obtain ⟨rfl, rfl, -⟩ := hH b u e
    exact ⟨ha, by rw [List.length_map]; exact hl, vs, _, vals, ha⟩
  have low : ∀ {b : Addr} {o : Obj}, s.heap.get? b = some o → H b = none → (hidT s.heap H).get? b = some o := fun e n => hidT_get e n
  have dic : ∀ {b : Addr} {m : Str → Option Value}, s.heap.Ns b m → (hidT s.heap H).Ns b m := by
    rintro b m ⟨o, es, ep, e, d, t⟩
    refine ⟨o, es, ep, low e ?_, d, t⟩
    cases q : H b with
    | none => rfl
    | some u =>
      obtain ⟨rfl, -, -⟩ := hH b u q
      cases ha.symm.trans e
      cases d
  have KB : K.In (hidT s.heap H) := fun b o e => low (KX b o e) (by
    cases q : H b with
    | none => rfl
    | some u =>
      obtain ⟨rfl, -, n⟩ := hH b u q
      cases n.symm.trans e)
  obtain ⟨mc, l1, l2⟩ := n4
  have env : Env0 P w K mg (hidT s.heap H) callerA [] s H :=
    ⟨rfl, ⟨KB, dic n1, ⟨mb, dic n2, n3⟩, ⟨mc, dic l1, l2⟩⟩, fun _ _ e => of_hidT e, Nat.le_of_eq (hidT_size _ _), trivial, fun b h => absurd h (by simp [frs]), okH, .of_eq hg⟩
  refine codeAny_mono (F _ KB (dic n1) [] s H ⟨[.ref a], []⟩ [.ref a] [.ref a] _ _ env (hb s (.ref a)) (.cons rfl .nil) (hsp H sq)) fun r s' h => ?_
  match r, h with
  | .error e, h => exact (cx_no h).elim
  | .ok (.ret u), ⟨v, H', os, bare, un, ok', rv, q⟩ =>
    obtain rfl : v = .bl true := q
    obtain rfl : u = Value.bool true := rv
    refine ⟨rfl, OldK.of_keep fun b o e => ?_, os, bare⟩
    cases q : H b with
    | none => exact un.keep b o e q (fun z => by simp [frs] at z) (by simp)
    | some u =>
      obtain ⟨rfl, rfl, -⟩ := hH b u q
      cases ha.symm.trans e
      exact (ok' _ _ (un.frzs _ _ _ q)).1
/-- from the meaning of the text to the row, for a law that asks for texts -/
theorem walk_dG {l : PySem.W.OpenLaw} {n : Nat} {q : Program} {loose : List Str} {XP : (Str → Option Value) → Heap → Prop} {YP : World → Heap → Prop} {d : DefRec} {K : Params → PySem.W.Frag} {x : Str} {sem : Sem}
    (hn : l.most = some n) (hz : n ≤ sizeLine) (hdf : d.params.defaults = []) (hY : ∀ (w : World) (h : Heap), YP w h → (K w.params).In h)
    (ht : ∀ ns : List Int, ns.length ≤ n → ∃ ys, ys.length = 1 ∧ sem [.fz (scrD ns)] = some (.ok (.val (.bool true)), ys))
    (F : ∀ (w : World) (mg : Str → Option Value) (fa : Addr) (h : Heap), (K w.params).In h → h.Ns mainGlobals mg → mg d.name = some (.ref fa) →
      ∃ fd : FuncData, (∀ (s : Shared) (v : Value), BindsTo s fd ⟨[v], []⟩ [(x, v)]) ∧ ∀ base : Heap, (K w.params).In base → base.Ns mainGlobals mg → FnAt l.prog w (K w.params) mg base callerA fa fd [x] (spD (K w.params) mg sem 1)) :
    PySem.W.WalkO q loose XP YP l.row.toRowW d [] (fun f vs => PySem.call f vs) := by
  refine Att.attach_call hn hdf fun w s0 s1 mg mb fa o pm cd doc a vs ns G Y ho hd hcd hmg hobj hin hlen hg => ?_
  obtain ⟨fd, hb, hF⟩ := F w mg fa _ (hY w _ Y) G.T.g hmg
  exact ask_law (hY w _ Y) G.T.g G.T.b G.T.builtins G.T.nolimit hg hobj hin (Nat.le_trans hlen hz) hF hb fun H sq => law_sp ht H a ns hlen sq
end DL
end

section
namespace DL
open PySem
def mE0 : M RV := M.ret (.val (.dict []))
mutual
/-- tuples and empty dicts alone: no list inside -/
def layT : D → Bool
  | .none => true
  | .bool _ => true
  | .int _ => true
  | .str x => PyData.strOk x
  | .tuple ds => layTs ds
  | .dict [] => true
  | .dict (p :: r) => oneI (p :: r)
  | _ => false
def layTs : List D → Bool
  | [] => true
  | d :: ds => layT d && layTs ds
end
def isRowT : D → Bool
  | .tuple _ => true
  | .dict [] => true
  | .dict (p :: r) => oneI (p :: r)
  | _ => false
/-- rows that can be shown -/
def shR (d : D) : Bool := ((isRow d && okE d) || (isRowT d && layT d && decide (d.depth ≤ 40))) && PyData.showable d && decide ((PyData.shown d).length ≤ lineD)
/-- what lies not on the heap -/
def shS : D → Bool
  | .none => true
  | .bool _ => true
  | .int i => decide (i.natAbs.log2 < 1920)
  | .str x => decide ((PyData.shown (.str x)).length ≤ lineD)
  | _ => false
/-- lists of things that are free of dicts, or of lists -/
def shL : D → Bool
  | .list ds => ds.all (fun d => d.canLay0 || layT d) && PyData.showableAll ds && decide (PyData.depthAll ds ≤ 40) && decide ((PyData.shown (.list ds)).length ≤ lineD)
  | _ => false
def gReprT : List Rs → Option RV
  | [a] => match a.data with
    | some d => if (shR d || shS d) || shL d then some (.val (.str (PyData.shown d))) else none
    | none => none
  | _ => none
end DL
end

section
namespace DL
open PySem PySem.Spec PyProof.Rows L2
section
variable {X : Cx} {W : WX}
theorem de_e0 {pos : Pos} : DE X W (.Dict [] [] pos) mE0 := pe_weak pe_dnewK fun σ H Q ⟨B, r, O, c, o, r', e, p⟩ => by
  cases e
  intro q hq
  obtain ⟨B', s, c', l, F, e1, ⟨rfl, vs, g1, g2⟩, hF⟩ := c.alc (show Alc X.K B H (upd H q (.dK [])) (.new (.dK [])) (.ref q) from ⟨q, [], hq, rfl, .nil, rfl⟩)
  cases g2
  cases e1
  obtain ⟨n1, n2, n3⟩ := hF q (by simp)
  have c2 := c'.still g1 n2 n3
  exact p _ _ O _ ⟨s.sB.trans (same_new n2), s.keep, s.live, fun a q1 q2 q3 => by
    rw [upd_ne (show a ≠ q from fun e => q1 (by rw [e]; exact n1))]
    exact s.nB a q1 q2 q3, s.nO⟩ c2 .refl (.dic upd_same)
mutual
theorem dq_readsT {pins : List (Addr × Obj)} {σ : L2.St} {H : Hp} {s : Shared} (I : Inv X pins σ H s) : ∀ {v : V} {d : D} {u : Value}, Dq X.K H v d → layT d = true → RelV v u → ∃ as, Reads s.heap u d as ∧ sysModules ∉ as
  | _, _, _, .non, _, r => by cases r; exact ⟨_, Reads.none, by simp⟩
  | _, _, _, .bl b, _, r => by cases r; exact ⟨_, Reads.bool b, by simp⟩
  | _, _, _, .int i, _, r => by obtain ⟨t, rfl⟩ := r; exact ⟨_, Reads.int i t, by simp⟩
  | _, _, _, .str x, _, r => by obtain ⟨t, rfl⟩ := r; exact ⟨_, Reads.str x t, by simp⟩
  | _, _, _, .lst _ _, h, _ => by simp [layT] at h
  | _, _, _, .scr _ e, h, _ => by subst e; simp [scrD, layT, oneI] at h
  | _, _, _, .fn _ e, h, _ => by subst e; simp [fnD, layT, oneI] at h
  | _, _, _, @Dq.dii _ _ _ i j g, _, r => by
    cases r
    obtain ⟨_, lo, vs, rel, o, es, ep, h1, h2, h3, h4, h5, _⟩ := (show ObjOk X.prog X.w H s.heap _ (.dK [(.inl i, .int j)]) from I.hok _ _ g)
    cases rel with
    | @cons _ kv _ _ rr rt =>
      cases rt
      obtain ⟨k, u⟩ := kv
      obtain ⟨rfl, t, rfl⟩ := rr
      cases q : es.toList with
      | nil => rw [q] at h5; cases h5
      | cons e es2 =>
        rw [q] at h5
        cases h5 with
        | cons p1 p2 p3 =>
          cases p3
          obtain ⟨t2, hk⟩ : ∃ t2, e.key = .int i t2 := by
            have p1 : keyIs (.inl i) e.key = true := p1
            rcases keyIs_shape p1 with ⟨i2, t2, e2, h⟩ | ⟨x, t2, e2, h⟩
            · cases e2; exact ⟨t2, h⟩
            · cases e2
          have p2 : e.val = .int j t := p2
          refine ⟨_, Reads.dict (kvs := [(.int i, .int j)]) h1 h2.1 h3 (by rw [q]; show ReadsAll _ [e.key] [.int i] _; rw [hk]; exact .cons (.int _ _) .nil) (by rw [q]; show ReadsAll _ [e.val] [.int j] _; rw [p2]; exact .cons (.int _ _) .nil), ?_⟩
          intro hm
          simp at hm
          rw [← hm] at lo
          simp at lo
  | _, _, _, .tup g a, h, r => by
    cases r
    obtain ⟨its, rv, ⟨o, ho, hc, n, hd⟩, _⟩ := I.tuple (g.sq (K := X.K))
    obtain ⟨as, hr, hs⟩ := dqa_readsT I a (by simpa [layT] using h) rv
    exact ⟨_, Reads.tuple ho hc hd hr, hs⟩
  | _, _, _, .dic g, _, r => by
    cases r
    obtain ⟨_, lo, vs, rel, o, es, ep, h1, h2, h3, h4, h5, _⟩ := (show ObjOk X.prog X.w H s.heap _ (.dK []) from I.hok _ _ g)
    cases rel
    have he : es.toList = [] := by
      cases q : es.toList with
      | nil => rfl
      | cons a b => rw [q] at h5; cases h5
    refine ⟨_, Reads.dict (kvs := []) h1 h2.1 h3 (by rw [he]; exact .nil) (by rw [he]; exact .nil), ?_⟩
    intro hm
    rw [List.append_nil] at hm
    rw [← List.mem_singleton.mp hm] at lo
    simp at lo
theorem dqa_readsT {pins : List (Addr × Obj)} {σ : L2.St} {H : Hp} {s : Shared} (I : Inv X pins σ H s) : ∀ {vs : List V} {ds : List D} {us : List Value}, DqAll X.K H vs ds → layTs ds = true → Vals vs us → ∃ as, ReadsAll s.heap us ds as ∧ sysModules ∉ as
  | _, _, _, .nil, _, r => by cases r; exact ⟨_, ReadsAll.nil, by simp⟩
  | _, _, _, .cons h t, e, r => by
    simp only [layTs, Bool.and_eq_true] at e
    cases r with
    | cons r1 r2 =>
      obtain ⟨as, q1, s1⟩ := dq_readsT I h e.1 r1
      obtain ⟨bs, q2, s2⟩ := dqa_readsT I t e.2 r2
      exact ⟨_, ReadsAll.cons q1 q2, by simp [s1, s2]⟩
end
theorem row_reads {pins : List (Addr × Obj)} {σ : L2.St} {H B : Hp} {s : Shared} (I : Inv X pins σ H s) (sb : Same B H) {a : Rs} {d : D} {v : V} (p1 : RsR X.K B H a v) (e : a.data = some d) (h : shR d = true) :
    ∃ l as, v = V.ref l ∧ Reads s.heap (.ref l) d as ∧ PyData.showable d = true ∧ (d.hasDict = true → sysModules ∉ as) ∧ d.depth ≤ 40 ∧ (PyData.shown d).length ≤ sizeLine := by
  have dq := rs_dp sb p1 e
  simp only [shR, Bool.and_eq_true, Bool.or_eq_true, decide_eq_true_eq] at h
  obtain ⟨⟨h, k3⟩, k4⟩ := h
  rcases h with ⟨k1, k2⟩ | ⟨⟨k1, k2⟩, dep⟩
  · have dep := okE_dep k2
    have lay := okE_lay k2
    obtain ⟨l, rfl⟩ : ∃ l, v = V.ref l := by
      cases d with
      | list xs => obtain ⟨l, _, rfl, _⟩ := rs_list sb p1 e; exact ⟨l, rfl⟩
      | tuple xs => obtain ⟨l, _, rfl, _⟩ := rs_tuple sb p1 e; exact ⟨l, rfl⟩
      | _ => cases k1
    obtain ⟨as, rd⟩ := Dp.reads I d _ _ (dq_dp dq lay) (show RelV (.ref l) (.ref l) from rfl)
    exact ⟨l, as, rfl, rd, k3, PyData.noDict_hsm (PyData.hasDict_of_canLay d lay), dep, k4⟩
  · obtain ⟨l, rfl⟩ : ∃ l, v = V.ref l := by
      cases dq with
      | tup _ _ => exact ⟨_, rfl⟩
      | dic _ => exact ⟨_, rfl⟩
      | dii _ => exact ⟨_, rfl⟩
      | scr _ h => subst h; simp [scrD, isRowT, oneI] at k1
      | fn _ h => subst h; simp [fnD, isRowT, oneI] at k1
      | lst _ _ => cases k1
      | _ => cases k1
    obtain ⟨as, rd, hs⟩ := dq_readsT I dq k2 (show RelV (.ref l) (.ref l) from rfl)
    exact ⟨l, as, rfl, rd, k3, fun _ => hs, dep, k4⟩
theorem item_reprs {pins : List (Addr × Obj)} {σ : L2.St} {H : Hp} {s : Shared} (I : Inv X pins σ H s) {v : V} {d : D} {u : Value} (h : Dq X.K H v d) (hd : (d.canLay0 || layT d) = true) (r : RelV v u) : ∃ as, Reads s.heap u d as ∧ (d.hasDict = true → sysModules ∉ as) := by
  rcases Bool.or_eq_true_iff.mp hd with hl | hl
  · obtain ⟨as, rd⟩ := Dp.reads I d _ _ (dq_dp h hl) r
    exact ⟨as, rd, PyData.noDict_hsm (PyData.hasDict_of_canLay d hl)⟩
  · obtain ⟨as, rd, hs⟩ := dq_readsT I h hl r
    exact ⟨as, rd, fun _ => hs⟩
theorem items_repr {pins : List (Addr × Obj)} {σ : L2.St} {H : Hp} {s : Shared} (I : Inv X pins σ H s) : ∀ {vs : List V} {ds : List D} {us : List Value}, DqAll X.K H vs ds → Vals vs us → ds.all (fun d => d.canLay0 || layT d) = true → PyData.showableAll ds = true →
    (∀ t ∈ PyData.shownAll ds, t.length ≤ sizeLine) → ∃ as bs, ReadsAll s.heap us ds as ∧ ReadAtMost s.heap (PyData.depthAll ds) bs ∧ ReprAllK X.prog X.w bs s.heap (PyData.depthAll ds) us (PyData.shownAll ds)
  | _, _, _, .nil, .nil, _, _, _ => ⟨[], [], .nil, (fun _ h => nomatch h), by simp only [PyData.shownAll]; exact .nil⟩
  | _, _, _, .cons (d := d) (ds := ds) h t, .cons r1 r2, hl, hs, hz => by
    simp only [List.all_cons, Bool.and_eq_true] at hl
    have hs' : d.showable = true ∧ PyData.showableAll ds = true := by simpa [PyData.showableAll] using hs
    obtain ⟨a1, q1, n1⟩ := item_reprs I h hl.1 r1
    obtain ⟨b1, hb1, k1⟩ := ReprK.of_reads (prog := X.prog) (w := X.w) q1 hs'.1 n1 (hz _ (by simp only [PyData.shownAll]; exact List.mem_cons_self ..))
    obtain ⟨a2, b2, q2, hb2, k2⟩ := items_repr I t r2 hl.2 hs'.2 (fun t ht => hz t (by simp only [PyData.shownAll]; exact List.mem_cons_of_mem _ ht))
    refine ⟨a1 ++ a2, b1 ++ b2, .cons q1 q2, fun b hm => ?_, ?_⟩
    · simp only [PyData.depthAll]
      rcases List.mem_append.mp hm with hm | hm
      · obtain ⟨d', as', r', hd'⟩ := hb1 b hm
        exact ⟨d', as', r', Nat.le_trans hd' (Nat.le_max_left _ _)⟩
      · obtain ⟨d', as', r', hd'⟩ := hb2 b hm
        exact ⟨d', as', r', Nat.le_trans hd' (Nat.le_max_right _ _)⟩
    · simp only [PyData.depthAll, PyData.shownAll]
      exact .cons ((k1.more fun b hb => List.mem_append_left _ hb).level_le (Nat.le_max_left _ _)) (k2.more_le (fun b hb => List.mem_append_right _ hb) (Nat.le_max_right _ _))
/-- the text of a list of such things -/
theorem list_repr {pins : List (Addr × Obj)} {σ : L2.St} {H : Hp} {s : Shared} {l : Addr} {ms : List V} {ds : List D} {Q : Value → Shared → Prop} {E : Value → Shared → Prop} (I : Inv X pins σ H s) (g1 : H l = some (.lst ms)) (g2 : DqAll X.K H ms ds) (hL : shL (.list ds) = true) (hG : X.A.guards = some []) (hu : X.A.units + 64 < cLine)
    (hQ : ∀ h' u tk, (∀ b o, s.heap.get? b = some o → h'.get? b = some o) → Q (.str (PyData.shown (.list ds)) u) { s with heap := h', toks := tk }) : wpAny (model X.prog X.w) X.A (call (.builtin "repr") [.ref l]) Q E s := by
  simp only [shL, Bool.and_eq_true, decide_eq_true_eq] at hL
  obtain ⟨⟨⟨k1, k2⟩, k3⟩, k4⟩ := hL
  have k4 : (PyData.shown (.list ds)).length ≤ sizeLine := k4
  obtain ⟨_, its, n, rv, h1⟩ := (show ObjOk X.prog X.w H s.heap l (.lst ms) from I.hok l _ g1)
  have hz' : (listText (PyData.shownAll ds)).length ≤ sizeLine := by simpa only [PyData.shown] using k4
  obtain ⟨as, bs, rd, hb, hk⟩ := items_repr I g2 rv k1 k2 fun t ht => Nat.le_trans (listText_mem_le ht) hz'
  have rdl : Reads s.heap (.ref l) (.list ds) (l :: as) := .list h1 rfl rfl (by simpa using rd)
  have hna : l ∉ bs := not_mem_of_deeper rdl (by simp only [PyData.depth]; omega) hb
  have S : ShowsBy X.prog X.w s.heap l (.list ds) "list" "list.__repr__" := by
    refine ⟨F.slot_list_repr.toG, F.slot_list_str, F.slot_list_format, fun s hk0 => ⟨_, hk0 _ _ h1, rfl⟩, fun A E s Q hg hu hk0 hQ => ?_⟩
    simp only [PyData.depth] at hu
    simp only [PyData.shown] at hQ
    cases its with
    | nil =>
      cases rd
      simp only [PyData.shownAll, listText_nil] at hQ
      exact call_list_repr_empty ⟨_, hk0 _ _ h1, rfl⟩ (hk0 _ _ h1) rfl (hQ s.heap _ _ fun _ _ e => e)
    | cons x l2 =>
      exact call_list_reprK h1 rfl rfl hna (by simpa using hk.length_eq) (fun i y e => hk.item i y (by simpa using e)) hg (fun b _ => Clear.nil b) hu hk0 hQ hz'
  exact call_repr_slot (by omega) (S.typeIs s fun _ _ h => h) S.slotRepr (S.call X.A.in1 E s _ hG (by show X.A.units + 1 + (PyData.depthAll ds + 1) < cLine; omega) (fun _ _ h => h) fun h' u tk hk => ⟨_, _, rfl, hQ h' u tk hk⟩)
theorem cd_reprT (hG : X.A.guards = some []) (hu : X.A.units + 64 < cLine) : CallD X (.builtin "repr") gReprT := by
  intro pins s σ H vs us Q I r ⟨B, as, z, sb, p, hg, q⟩
  unfold gReprT at hg
  split at hg
  · rename_i a
    split at hg
    · rename_i d e
      split at hg
      · rename_i hok
        cases hg
        cases p with
        | cons p1 p =>
          cases p
          rename_i v
          by_cases h1 : shR d = true
          · obtain ⟨l, as, rfl, rd, k3, hs, dep, k4⟩ := row_reads I sb p1 e h1
            cases Vals.ref1 r
            refine repr_of_reads' rd k3 hs hG (by omega) (fun _ _ h => h) (fun h' u tk hk => ?_) k4
            exact ⟨.str _, H, I.kept hk, ⟨u, rfl⟩, alc_val q (.str _)⟩
          · by_cases h2 : shL d = true
            · cases d with
              | list ds =>
                obtain ⟨l, ms, rfl, g1, g2⟩ := rs_list sb p1 e
                cases Vals.ref1 r
                refine list_repr I g1 (dpa_same sb g2) h2 hG hu fun h' u tk hk => ?_
                exact ⟨.str _, H, I.kept hk, ⟨u, rfl⟩, alc_val q (.str _)⟩
              | _ => cases h2
            rcases Bool.or_eq_true_iff.mp ((Bool.or_eq_true_iff.mp hok).resolve_right h2) with h | hok
            · exact absurd h h1
            cases r with
            | cons r1 r2 =>
              cases r2
              have dq := rs_dp sb p1 e
              cases d with
              | none =>
                cases dp_non dq
                cases r1
                exact P.repr_of_none ⟨.str _, H, I.tok _, ⟨_, rfl⟩, alc_val q (by rw [show PyData.shown PyData.none = ("None" : Str) by simp only [PyData.shown]]; exact .str _)⟩
              | bool b =>
                cases dp_bl dq
                cases r1
                exact P.repr_of_bool ⟨.str _, H, I.tok _, ⟨_, rfl⟩, alc_val q (by rw [show PyData.shown (.bool b) = ((if b then "True" else "False" : Str)) by simp only [PyData.shown]]; exact .str _)⟩
              | int i =>
                cases dp_int dq
                obtain ⟨t, rfl⟩ := r1
                exact P.repr_of_int (of_decide_eq_true hok) ⟨.str _, H, I.tok _, ⟨_, rfl⟩, alc_val q (by rw [show PyData.shown (.int i) = (toString i : Str) by simp only [PyData.shown]]; exact .str _)⟩
              | str x =>
                cases dp_str dq
                obtain ⟨t, rfl⟩ := r1
                have hl : (reprText x).length ≤ sizeLine := by
                  have := of_decide_eq_true hok
                  rwa [PyData.shown_str] at this
                exact P.repr_of_str ⟨.str _, H, I.tok _, ⟨_, rfl⟩, alc_val q (by rw [PyData.shown_str]; exact .str _)⟩ hl
              | _ => cases hok
      · cases hg
    · cases hg
  · cases hg
end
/-- what a def keeps where no text is being made -/
structure FnOkG (P : Program) (w : World) (K : PySem.W.Frag) (mg : Str → Option Value) (base : Heap) (k : Nat) (f : Addr) (fd : FuncData) (ps : List Str) (sp : Sp) : Prop where
  len : ∀ vs H Q E, sp vs H Q E → vs.length = ps.length
  run : ∀ A, Room k A → A.guards = some [] → FnAt P w K mg base A f fd ps sp
theorem FnOkG.mono {P : Program} {w : World} {K : PySem.W.Frag} {mg : Str → Option Value} {base : Heap} {j k : Nat} {f : Addr} {fd : FuncData} {ps : List Str} {sp : Sp} (F : FnOkG P w K mg base j f fd ps sp) (h : j ≤ k) : FnOkG P w K mg base k f fd ps sp :=
  ⟨F.len, fun A hr => F.run A (hr.mono h)⟩
section
variable {X : Cx} {W : WX}
end
end DL
end

section
namespace DL
open PySem
end DL
end

section
namespace DL
open PySem PySem.Spec PyProof.Rows L2
section
variable {P : Program} {w : World} {A : Around} {E : Value → Shared → Prop} {s : Shared}
end
section
variable {X : Cx} {W : WX}
end
end DL
end

section
namespace DL
open PySem
end DL
end

section
namespace DL
open PySem PySem.Spec PySem.Calls PyProof.Rows L2
section
variable {X : Cx}
end
end DL
end

section
namespace DL
open PySem
end DL
end

section
namespace DL
open PySem PySem.Spec PySem.Calls PyProof.Rows L2
section
variable {X : Cx} {W : WX}
end
end DL
end

section
namespace DL
open PySem
end DL
end

section
namespace DL
open PySem PySem.Spec PyProof.Rows L2
section
variable {X : Cx}
end
end DL
end

section
namespace DL
open PySem
end DL
end

section
namespace DL
open PySem PySem.Spec PyProof.Rows L2
section
variable {X : Cx} {W : WX}
end
end DL
end

section
namespace DL
open PySem
def endTry (i : Nat) : Option (SO × Ro) → Option (SO × Ro)
  | some (.nx, r2) => match r2[i]? with
    | some z => if putSl.pinnedB z = false then some (.nx, r2.set i .non) else none
    | none => none
  | some (.ret v, r2) => match r2[i]? with
    | some z => if putSl.pinnedB z = false then some (.ret v, r2.set i .non) else none
    | none => none
  | _ => none
/-- try: b; except C as (slot i): the suite, by the class; L: the classes that the clause takes -/
def sTryS (b : S) (L : List String) (i : Nat) (ms : String → S) : S := fun r => match b r with
  | some (.exc x, r1) => match x.row, r1[i]? with
    | none, some y => if L.contains x.cls ∧ putSl.pinnedB y = false then endTry i (ms x.cls (r1.set i .non)) else none
    | _, _ => none
  | z => z
def exSelS (c : String) (m1 m2 : S) : String → S := fun n => if n = c then m1 else m2
/-- a call of what slot i holds, a def of the module -/
def mCallV (i : Nat) (tbl : List (Str × Sem)) (ms : List (M AV)) : M RV := fun r => match r[i]? with
  | some (.frz _ d) => match (fnName d).bind fun x => tbl.lookup x with
    | some f => mCall f ms r
    | none => none
  | _ => none
end DL
end

section
namespace DL
open PySem PySem.Spec PySem.Calls PyProof.Rows L2
section
variable {X : Cx} {W : WX}
theorem pmk_own0 {C : Addr} {bmB : List Value} {B newId initId : String} {x : Str} {p pos : Pos} (F : ExcBaseFacts B newId initId bmB) (q : PySem.W.excIn X.K C bmB newId = true) (gC : X.mg x = some (.ref C))
    (kC : PySem.W.keepIn X.K (.ref C) = true) (r : Raises X (.ref C)) (hg : Gl X x) (hdb : (x == ("__debug__" : Str)) = false := by decide) :
    L2N.PMk X (.Call (.Name x p) [] [] pos) (fun σ H Q => Q (.ref C) none H) := by
  intro pins s σ H Q I h
  refine wpAny_Call_Name_kw (ld_glob I hg gC ?_ hdb)
  refine PySem.W.callWith_K0 I.kIn kC ?_
  show wpAny _ _ (call (.ref C) []) _ _ _
  obtain ⟨bm, N, nm, qn, bs, hdct, sn, sub, ab, col, dd, k0, k1, k2, k3, k5, mN, hC, hN, hni, T⟩ := exc_obj I.kIn q
  refine wpAny_call_exc_subT F T hC hN hni (fun h' e hm => ?_) (Nat.zero_le _)
  exact L2N.mk_of I hm r h (I.hok.gone hm.new)
theorem ds_raise0 {cls : String} {C : Addr} {p pos pos' : Pos} (hc : X.calm = true) (tk : L2N.Takes X W) (T : ExK X.K X.mg cls C) (hg : Gl X (Str.ofString cls)) (hdb : (Str.ofString cls == ("__debug__" : Str)) = false := by decide) :
    DS X W (.Raise (some (.Call (.Name (Str.ofString cls) p) [] [] pos)) none pos') (sRaise cls) :=
  ps_weak (L2N.ps_raise hc tk (pmk_own0 PySem.F.excBase_ValueError T.q T.gC T.kC (raises_own T.b T.t) hg hdb)) fun D σ H ⟨B, r, O, c, o, r', e, p⟩ => by
    cases e
    exact p B H O σ (.ref C) none .refl c .refl ⟨C, T.gC, rfl, rfl⟩
def tX (X : Cx) (W : WX) (i : Nat) (a : Addr) (m : S) : TS := fun D σ H => σ[i]? = some (some (V.ref a)) ∧ tS (Cx.g X) W m D σ H
theorem dxx_of {i : Nat} {a : Addr} {sts : List Stmt} {m : S} (h : DSs X W sts m) : PSs X sts (tX X W i a m) := pss_weak h fun D σ H h => h.2
theorem dxx_set {i j : Nat} {a : Addr} {x : Str} {e : Expr} {pos pos' : Pos} {sts : List Stmt} {m : M RV} {m2 : S} (hN : X.N.Nodup) (hi : X.N[j]? = some x) (hx : Loc X.env.scope x) (he : DEx X W i a e m) (ht : PSs X sts (tX X W i a m2)) (hne : j ≠ i := by decide)
    (hs : swapsWith e (some (.Name x pos')) pos.line X.env = pure false := by rfl)
    (hf : X.fn x = true ∨ X.env.scope.names.lookup x = some .local := by first | exact .inl rfl | exact .inr rfl | assumption) : PSs X (.Assign [.Name x pos'] e pos :: sts) (tX X W i a (sSeq (sSet j m) m2)) :=
  pss_weak (pss_cons (ps_set hN hi hx he hs hf) ht) fun D σ H ⟨hi, B, r, O, h⟩ => by
    refine ⟨hi, tG.of (h.seq.ex.mono ?_)⟩
    rintro y H1 ⟨v, B1, r1, O1, s1, b1, x1, c1, o, r', e, p⟩
    obtain ⟨rfl, O2, c2, b2, h2⟩ := put_ok c1 e x1 s1.live
    exact ⟨by rw [List.getElem?_set_ne hne]; exact hi, p B1 H1 O2 _ (put_step s1 h2) c2 (b1.trans b2)⟩
/-- an if whose test is not of the clause's own and which tells False is left out; a test by isinstance that is refused: not isinstance(e, C) -/
theorem dxx_skipNot {i : Nat} {a : Addr} {c : Expr} {st : Stmt} {pos pos2 : Pos} {sts : List Stmt} {m2 : S} (he : DEx X W i a c (mC (.bool true))) (ht : PSs X sts (tX X W i a m2))
    (hv : ∀ whole, isTrue c X.env whole = (do let v ← whole; standAt c.pos; holding [v] (truthy v)) := by intro _; rfl) : PSs X (.If (.UnaryOp .Not c pos2) [st] [] pos :: sts) (tX X W i a m2) :=
  pss_weak (pss_cons (ps_if (pt_not (pt_val he hv)) (dss_one (W := W) (ds_stuck (st := st))) pss_nil) ht) fun D σ H ⟨hi, B, r, O, c, o, r', e, p⟩ =>
    ⟨hi, B, r, O, c, _, _, rfl, fun B1 H1 O1 v s1 c1 b1 x1 => ⟨true, dp_bl x1, iteF ⟨hi, tS.of (AtS.after s1 c1 b1 e p)⟩⟩⟩
theorem ds_tryS {x n : Str} {cv : Value} {i : Nat} {body : List Stmt} {b₀ : Stmt} {suite : List Stmt} {np pos pos' : Pos} {mb : S} {L : List String} {ms : String → S} (hs : X.stack = X.env :: X.outer) (hf : X.env.frame = some X.env.locals) (hN : X.N.Nodup) (hi : X.N[i]? = some n) (hln : X.env.kindOf n = some .local)
    (hc : Names X x cv) (tk : L2N.Takes X W)
    (hb : ∀ (W' : WX) (pn : List (Addr × Obj)) (xe : Value → Shared → Prop), L2N.Takes (X.tr pn xe) W' → PassesOwn (model X.prog X.w) X.A X.env xe → DSs (X.tr pn xe) W' body mb)
    (hL : ∀ n ∈ L, ∀ C, X.mg (Str.ofString n) = some (.ref C) → PySem.W.exmOne X.K (.ref C) cv = some true)
    (hS : ∀ n ∈ L, ∀ C, X.mg (Str.ofString n) = some (.ref C) → ∀ (a : Addr) (oe : Obj) (pn : List (Addr × Obj)), L2N.Zn (.ref C) none oe → (∃ vs, oe.data = .fields vs) → PSs (X.suite a ((a, oe) :: pn)) (b₀ :: suite) (tX X (fun _ _ _ _ => False) i a (ms n))) :
    DS X W (.Try body [.ExceptHandler (some (.Name x np)) (some n) (b₀ :: suite) pos'] [] [] pos) (sTryS mb L i ms) :=
  ps_weak (L2N.ps_try_as (i := i) (tb := fun W' => tS (Cx.g X) W' mb)
    (ts := fun a cls d D σ H => ∃ n, n ∈ L ∧ ∃ C, X.mg (Str.ofString n) = some (.ref C) ∧ cls = .ref C ∧ d = none ∧ tX X (fun _ _ _ _ => False) i a (ms n) D σ H)
    hs hf hN hi hln hc tk hb (fun a oe cls d pn hz hv => ⟨fun pins s σ H D I h => by
      obtain ⟨n, hn, C, hC, rfl, rfl, h1⟩ := h
      exact (hS n hn C hC a oe pn hz hv).run pins s σ H D I h1⟩)) fun D σ H ⟨B, r, O, c, o, r', e, p⟩ => by
  refine ⟨B, r, O, c, ?_⟩
  unfold sTryS at e
  cases q : mb r with
  | none => rw [q] at e; cases e
  | some z =>
    obtain ⟨o1, r1⟩ := z
    rw [q] at e
    refine ⟨o1, r1, rfl, ?_⟩
    cases o1 with
    | nx => cases e; exact p
    | brk => cases e; exact p
    | cnt => cases e; exact p
    | ret v => cases e; exact p
    | rets k => cases e; exact p
    | exc x0 =>
      simp only at e
      split at e
      · rename_i y hrow hy
        split at e
        · rename_i hcond
          obtain ⟨h1, h2⟩ := hcond
          intro B1 H1 O1 σ1 cls dx s1 c1 b1 x1
          obtain ⟨C, hC, rfl, hdx⟩ := x1
          rw [hrow] at hdx
          have hdx : dx = none := hdx
          subst hdx
          have hmem : x0.cls ∈ L := by simpa using h1
          refine ⟨true, hL _ hmem C hC, fun _ a ha => ?_, fun z => by cases z⟩
          have hil : i < σ1.length := by rw [← c1.len]; exact (List.getElem?_eq_some_iff.mp hy).1
          have c2 : Con X.K B1 H1 (σ1.set i (some (V.ref a))) (r1.set i .non) O1 := c1.replace (x := .non) (by rw [List.length_set]) (fun k hk => List.getElem?_set_ne (Ne.symm hk)) trivial (fun _ _ z => by cases z)
          refine ⟨x0.cls, hmem, C, hC, rfl, rfl, List.getElem?_set_self hil, B1, _, O1, c2, ?_⟩
          -- back from the suite
          have bk : ∀ {B2 H2 O2 σ2 r2 z}, Con X.K B2 H2 σ2 r2 O2 → Bor (r1.set i .non) (σ1.set i (some (V.ref a))) r2 σ2 → r2[i]? = some z → putSl.pinnedB z = false →
              Con X.K B2 H2 (σ2.set i none) (r2.set i .non) O2 ∧ Bor r σ (r2.set i .non) (σ2.set i none) := fun {B2 H2 O2 σ2 r2 z} c3 b3 hz hzp => by
            refine ⟨c3.replace (x := .non) (by rw [List.length_set]) (fun k hk => List.getElem?_set_ne (Ne.symm hk)) trivial (fun _ _ z => by cases z), fun k w hw pw => ?_⟩
            obtain ⟨⟨w1, g1, g2⟩, g3⟩ := b1 k w hw pw
            have hki : k ≠ i := fun z => by
              subst z
              rw [hy] at g1
              cases g1
              have : putSl.pinnedB y = true := by cases y <;> exact g2
              rw [h2] at this
              cases this
            obtain ⟨⟨w2, g4, g5⟩, g6⟩ := b3 k w1 (by rw [List.getElem?_set_ne (Ne.symm hki)]; exact g1) g2
            refine ⟨⟨w2, by rw [List.getElem?_set_ne (Ne.symm hki)]; exact g4, g5⟩, ?_⟩
            rw [List.getElem?_set_ne (Ne.symm hki), g6, List.getElem?_set_ne (Ne.symm hki), g3]
          unfold endTry at e
          split at e
          · rename_i r2 q2
            split at e
            · rename_i z hz
              split at e
              · rename_i hzp
                cases e
                refine ⟨.nx, r2, q2, fun B2 H2 O2 σ2 s2 c3 b3 => ?_⟩
                obtain ⟨c4, b4⟩ := bk c3 b3 hz hzp
                exact p B2 H2 O2 _ (s1.trans s2) c4 b4
              · cases e
            · cases e
          · rename_i v r2 q2
            split at e
            · rename_i z hz
              split at e
              · rename_i hzp
                cases e
                refine ⟨.ret v, r2, q2, fun B2 H2 O2 σ2 x s2 c3 b3 x3 => ?_⟩
                obtain ⟨c4, b4⟩ := bk c3 b3 hz hzp
                refine p B2 H2 O2 _ x (s1.trans s2) c4 b4 ?_
                exact later_rV (G := Cx.g X) H H1 B2 H2 O2 (σ2.set i none) v x s1.live x3
              · cases e
            · cases e
          · cases e
        · cases e
      · cases e
theorem two_SS {mg : Str → Option Value} {P : S → Addr → Prop} {x y : String} {C D : Addr} {m1 m2 : S} (gC : mg (Str.ofString x) = some (.ref C)) (gD : mg (Str.ofString y) = some (.ref D)) (hne : y ≠ x) (h : P m1 C) (h2 : P m2 D) :
    ∀ n ∈ [x, y], ∀ C', mg (Str.ofString n) = some (.ref C') → P (exSelS x m1 m2 n) C' := fun n hn C' hC => by
  rcases List.mem_cons.mp hn with rfl | hn
  · rw [gC] at hC
    cases hC
    unfold exSelS
    rw [if_pos rfl]
    exact h
  · cases List.mem_singleton.mp hn
    rw [gD] at hC
    cases hC
    unfold exSelS
    rw [if_neg hne]
    exact h2
theorem de_fn {x : Str} {f : Addr} {p : Pos} (hg : Gl X x) (hm : X.mg x = some (.ref f)) (hn : PySem.W.nsIn X.K mainGlobals x = some (some (.ref f))) (hdb : (x == ("__debug__" : Str)) = false := by decide) : DE X W (.Name x p) (mC (fnD x)) :=
  pe_weak (pe_glob (v := .ref f) hg hm rfl hdb) fun σ H Q ⟨B, r, O, c, o, r', e, q⟩ => by
    cases e
    exact q B H O _ .refl c .refl (.fn hn rfl)
theorem fnName_some {d : D} {x : Str} (h : fnName d = some x) : d = fnD x := by
  unfold fnName at h
  split at h
  · cases h; rfl
  · cases h
theorem dq_fn {K : PySem.W.Frag} {H : Hp} {v : V} {x : Str} (h : Dq K H v (fnD x)) : ∃ f, v = .ref f ∧ PySem.W.nsIn K mainGlobals x = some (some (.ref f)) := by
  unfold fnD at h
  generalize e : (PyData.dict [(.str x, .none)] : D) = d at h
  cases h with
  | scr s h => rw [h] at e; simp [scrD] at e
  | fn s h =>
    rw [h] at e
    unfold fnD at e
    cases e
    exact ⟨_, rfl, s⟩
  | dic s => cases e
  | dii s => cases e
  | _ => cases e
/-- a def of the table -/
structure FnE (X : Cx) (k n : Nat) (x : Str) (sem : Sem) : Prop where
  ex : ∃ (f : Addr) (fd : FuncData) (ps : List Str), FnOk X.prog X.w X.K X.mg X.base (L2N.CX X.prog X.w) k f fd ps (spD X.K X.mg sem ps.length) ∧ PySem.W.nsIn X.K mainGlobals x = some (some (.ref f)) ∧ PySem.W.keepIn X.K (.ref f) = true ∧ Binds X.K fd ps [] ∧ n = ps.length
theorem call_reads {n : Nat} {sem : Sem} {ms : List (M AV)} {σ : L2.St} {H : Hp} {Q : VK} (hn : ms.length = n) (h : tG (Cx.g X) W (mCall sem ms) (rV (Cx.g X)) σ H Q) :
    tCallS (spD X.K X.mg sem n) (fun σ => WE W σ) (tG (Cx.g X) W (oL ms) (rL (Cx.g X))) σ H Q := by
  obtain ⟨B, r, O, h⟩ := h
  have olen : ∀ (ms : List (M AV)) (r : Ro) as r', oL ms r = some (.ok as, r') → as.length = ms.length := by
    intro ms
    induction ms with
    | nil => intro r as r' e; cases e; rfl
    | cons m ms ih =>
      intro r as r' e
      unfold oL M.bind at e
      split at e
      · cases e
      · rename_i a r1 q
        simp only [M.bind] at e
        split at e
        · cases e
        · rename_i as2 r2 q2
          cases e
          rw [List.length_cons, ih _ _ _ q2, List.length_cons]
        · cases e
      · cases e
  obtain ⟨c0, o0, r0, e0, p0⟩ := h
  have hlen : ∀ as r1, oL ms r = some (.ok as, r1) → as.length = n := fun as r1 q => (olen ms r as r1 q).trans hn
  have h : At (Cx.g X) W (mCall sem ms) (rV (Cx.g X)) B r O σ H Q := ⟨c0, o0, r0, e0, p0⟩
  refine ⟨B, r, O, c0, ?_⟩
  unfold mCall M.bind at e0
  cases q : oL ms r with
  | none => rw [q] at e0; cases e0
  | some z =>
    obtain ⟨o1, r1⟩ := z
    rw [q] at e0
    refine ⟨o1, r1, rfl, ?_⟩
    cases o1 with
    | exc x => cases e0; exact p0
    | ok as =>
      intro B1 H1 O1 vs s1 c1 b1 x1
      simp only at e0
      cases q2 : looks r1 as with
      | none => rw [q2] at e0; cases e0
      | some xs =>
        rw [q2] at e0
        simp only at e0
        split at e0
        · rename_i nd
          cases q3 : sem xs with
          | none => rw [q3] at e0; cases e0
          | some z3 =>
            obtain ⟨o3, ys⟩ := z3
            rw [q3] at e0
            simp only at e0
            split at e0
            · rename_i hl
              cases e0
              have x1 : Paired (AvR X.K B1 σ) as vs := x1
              refine ⟨by rw [← x1.length]; exact hlen as r1 q, B1, lent X.K B1 H1 O1 xs vs, xs, call_in c1 q2 x1 nd.1, o0, ys, q3, hl, ?_⟩
              cases o0 with
              | ok rv =>
                intro B' H' O' v s2 c2 x2
                obtain ⟨O2, s3, c3, b3, ho⟩ := call_out c1 q2 x1 nd.1 nd.2 hl s2 c2
                refine p0 B' H' O2 v (s1.trans s3) c3 (b1.trans b3) (later_rV H H1 B' H' O2 σ rv v s1.live ?_)
                cases rv with
                | val d => exact x2
                | new ct =>
                  obtain ⟨l, F, e1, o, hF⟩ := x2
                  refine ⟨l, F, e1, o, fun a ha => ⟨(hF a ha).1, (hF a ha).2.1, fun z => ?_⟩⟩
                  rcases ho a z with z | z
                  · exact c1.liv a z (hF a ha).1
                  · exact (hF a ha).2.2 z
              | exc x =>
                intro B' H' O' c dx s2 c2 x2
                obtain ⟨O2, s3, c3, b3, ho⟩ := call_out c1 q2 x1 nd.1 nd.2 hl s2 c2
                exact p0 B' H' O2 c dx (s1.trans s3) c3 (b1.trans b3) x2
            · cases e0
        · cases e0
theorem pe_callLS {CX : CXT} {k i : Nat} {f : Addr} {fd : FuncData} {ps : List Str} {sp : Sp} {E : L2.St → XK} {x : Str} {p pos : Pos} {e : Expr} {es : List Expr} {t : TA} (F : FnOk X.prog X.w X.K X.mg X.base CX k f fd ps sp) (hr : Room k X.A) (ho : PE X (.Name x p) (tVar i)) (hk : PySem.W.keepIn X.K (.ref f) = true) (hb : Binds X.K fd ps []) (hx : ∀ σ, PassesAt CX X σ (E σ))
    (ha : PA X (e :: es) t) (he : starEach (e :: es) X.env = (false, eval e X.env) :: starEach es X.env := by rfl) (hpl : (backTo pos (starEach es X.env)).any (·.1) = false := by rfl) :
    PE X (.Call (.Name x p) (e :: es) [] pos) (fun σ H Q => σ[i]? = some (some (.ref f)) ∧ tCallS sp E t σ H Q) := by
  refine ⟨fun pins s σ H Q I h => ?_⟩
  obtain ⟨hs, ht⟩ := h
  refine wpAny_Call_Name_kw (thn (ho.run pins s σ H (fun v H1 => v = .ref f ∧ H1 = H) I ⟨.ref f, hs, rfl, rfl⟩) fun u s1 ⟨v, H1, I1, r1, q1⟩ => ?_)
  obtain ⟨rfl, rfl⟩ := q1
  cases r1
  refine PySem.W.callWith_K (h₀ := X.base) I1.ok.mod.kin hk (thn (ha.run pos pins s1 σ _ _ I1 ht) fun us s2 ⟨vs, H2, I2, r, q⟩ => ⟨I2.kIn, ?_⟩) he hpl
  exact run_fnS F hr hb (hx σ) I2 r q
theorem de_callV {k i n : Nat} {tbl : List (Str × Sem)} {x : Str} {p pos : Pos} {e : Expr} {es : List Expr} {ms : List (M AV)} (tk : L2N.Takes X W) (T : ∀ y sem, tbl.lookup y = some sem → FnE X k n y sem) (hr : Room k X.A) (ho : PE X (.Name x p) (tVar i))
    (hn : ms.length = n) (ha : DA X W (e :: es) (oL ms)) (he : starEach (e :: es) X.env = (false, eval e X.env) :: starEach es X.env := by rfl) (hpl : (backTo pos (starEach es X.env)).any (·.1) = false := by rfl) :
    DE X W (.Call (.Name x p) (e :: es) [] pos) (mCallV i tbl ms) := by
  refine ⟨fun pins s σ H Q I ⟨B, r, O, c, o, r', e1, q⟩ => ?_⟩
  unfold mCallV at e1
  split at e1
  · rename_i b d hd
    split at e1
    · rename_i sem hs
      obtain ⟨y, hy, hl⟩ := Option.bind_eq_some_iff.mp hs
      obtain ⟨f, fd, ps, F, hns, hk, hb, hp⟩ := (T y sem hl).ex
      obtain ⟨v, g1, g2⟩ := c.frz i b d hd
      rw [fnName_some hy] at g2
      obtain ⟨f', rfl, hns'⟩ := dq_fn g2
      rw [hns] at hns'
      cases hns'
      exact (pe_callLS F hr ho hk hb (fun σ => L2N.passAt tk σ) ha he hpl).run pins s σ H Q I ⟨g1, call_reads (hn.trans hp) ⟨B, r, O, c, o, r', e1, q⟩⟩
    · cases e1
  · cases e1
theorem oE_reads {m : M RV} {σ : L2.St} {H : Hp} {Q : VK} (h : tG (Cx.g X) W (oE m) (rA (Cx.g X)) σ H Q) : tG (Cx.g X) W m (rV (Cx.g X)) σ H Q := by
  obtain ⟨B, r, O, c, o, r', e, p⟩ := h
  refine ⟨B, r, O, c, ?_⟩
  unfold oE M.bind at e
  cases q : m r with
  | none => rw [q] at e; cases e
  | some z =>
    obtain ⟨o1, r1⟩ := z
    rw [q] at e
    refine ⟨o1, r1, rfl, ?_⟩
    cases o1 with
    | exc x => cases e; exact p
    | ok rv =>
      simp only [M.of] at e
      cases qd : rv.data with
      | none => rw [qd] at e; cases e
      | some d =>
        rw [qd] at e
        cases e
        intro B1 H1 O1 v s1 c1 b1 x1
        obtain ⟨B2, s2, c2, dp, _⟩ := c1.frozen s1 x1 qd
        exact p B2 H1 O1 v s2 c2 b1 dp
theorem dex_bin {i : Nat} {ad : Addr} {a b : Expr} {op : Operator} {pos : Pos} {g : List Rs → Option RV} {oa : M AV} {m : M RV} (ho : OpD X (binaryOp op) g) (ha : DO X W a oa) (hb : DEx X W i ad b m) : DEx X W i ad (.BinOp a op b pos) (mOp g [oa, oE m]) :=
  pe_weak (pe_op ho ha hb) fun σ H Q ⟨hi, B, r, O, h⟩ => by
    rw [mOp_two] at h
    refine tG.of ((h.bind later_rV (R := rA (Cx.g X))).mono ?_)
    rintro x H1 ⟨a, B1, r1, O1, s1, x1, h1⟩
    refine ⟨hi, oE_reads (tG.of ((h1.bind later_rV (R := rA (Cx.g X))).mono ?_))⟩
    rintro y H2 ⟨b, B2, r2, O2, s2, x2, h2⟩
    obtain ⟨xs, z, sb, p, hg, q⟩ := h2.fin (.cons (x1.same s2.sB) (.cons x2 .nil))
    cases p with
    | cons p1 p => cases p with
      | cons p2 p =>
        cases p
        exact ⟨B2, _, _, z, sb, p1, p2, hg, q⟩
theorem tbl_nil {k n : Nat} : ∀ y sem, ([] : List (Str × Sem)).lookup y = some sem → FnE X k n y sem := fun _ _ h => by cases h
theorem tbl_cons {k n : Nat} {x : Str} {s : Sem} {tbl : List (Str × Sem)} (h : FnE X k n x s) (t : ∀ y sem, tbl.lookup y = some sem → FnE X k n y sem) : ∀ y sem, ((x, s) :: tbl).lookup y = some sem → FnE X k n y sem := fun y sem e => by
  rw [List.lookup_cons] at e
  split at e
  · rename_i hy
    cases e
    rw [eq_of_beq hy]
    exact h
  · exact t y sem e
end
end DL
end

section
set_option maxHeartbeats 2000000
namespace DL
open PySem PySem.Spec PySem.Calls PyProof.Rows L2
abbrev HotC := L2H.HotC
/-- the turning of a range's iterator where an exception is handled -/
structure TurnK (P : Program) (w : World) (K : PySem.W.Frag) (tg : Expr) (J : It) (it : Addr) (tn : Nat → Heap → Prop) : Prop where
  obj : ∀ i h, tn i h → ∃ o, h.get? it = some o ∧ ∀ v, o.data ≠ .cell v
  keep : ∀ i h h', tn i h → (∀ o, h.get? it = some o → h'.get? it = some o) → tn i h'
  item : ∀ (X : Cx), X.prog = P → X.w = w → X.K = K → ∀ (i : Nat) (pins : List (Addr × Obj)) (s : Shared) (σ : L2.St) (H : Hp) (E : Value → Shared → Prop), Inv X pins σ H s → FpOk X pins H it → tn i s.heap → J.go i H →
    wpAny (model P w) X.A (pyNext (.ref it)) (fun r s1 => ∃ u, r = some u ∧
      wpAny (model P w) X.A (letOwnedTupleGo tg (.ref it) u) (fun _ s2 => ∃ x H', Inv X pins σ H' s2 ∧ RelV x u ∧ J.yld i H x H' ∧ tn (i + 1) s2.heap ∧ H' it = none) E s1) E s
  done : ∀ (X : Cx), X.prog = P → X.w = w → X.K = K → ∀ (i : Nat) (pins : List (Addr × Obj)) (s : Shared) (σ : L2.St) (H : Hp) (E : Value → Shared → Prop) (x1 : Addr), HotX.HotAt X.A x1 s.heap → Inv X pins σ H s → FpOk X pins H it → tn i s.heap → J.stop i H →
    wpAny (model P w) X.A (pyNext (.ref it)) (fun r s1 => r = none ∧ Inv X pins σ H s1) E s
  self : ∀ (A : Around) (i : Nat) (s : Shared) (Q : Value → Shared → Prop) (E : Value → Shared → Prop), tn i s.heap → Q (.ref it) s → wpAny (model P w) A (pyIter (.ref it)) Q E s
theorem turnK_range {P : Program} {w : World} {K : PySem.W.Frag} {tg : Expr} (it : Addr) (lo : Int) (n : Nat) : TurnK P w K tg (Itr lo n) it (fun i h => IsRangeIter h it (lo + (i : Nat) * 1) ((n : Int) - (i : Nat)) 1) where
  obj := fun i h st => ⟨_, st, fun v z => by cases (show Data.fields _ = Data.cell v from z)⟩
  keep := fun i h h' st k => k _ st
  item := by
    intro X hP hw hK i pins s σ H E I hf st hg
    subst hP hw hK
    obtain ⟨f0, f1, f2, f3, f4, f5⟩ := hf
    have hlt : i < n := hg
    refine wpAny_pyNext_range_item st (by omega) fun h' st' sb => ?_
    have st2 : IsRangeIter h' it (lo + ((i + 1 : Nat) : Int) * 1) ((n : Int) - ((i + 1 : Nat) : Int)) 1 := by
      rw [show lo + ((i + 1 : Nat) : Int) * 1 = lo + ((i : Nat) : Int) * 1 + 1 by omega, show (n : Int) - ((i + 1 : Nat) : Int) = (n : Int) - ((i : Nat) : Int) - 1 by omega]
      exact st'
    have I1 : Inv X pins σ H { s with heap := h', toks := s.toks + 1 } := I.turned (fun b o hb e => (sb.2 b hb).trans e) f0 f1 f3 f4 f5
    refine ⟨_, rfl, go_of (s := { s with heap := h', toks := s.toks + 1 }) (n := "range_iterator") st2 rfl rfl (by decide) ⟨.int (lo + i), H, I1, ⟨s.toks, ?_⟩, ⟨rfl, rfl⟩, st2, f0⟩⟩
    rw [Int.mul_one]
  done := by
    intro X hP hw hK i pins s σ H E x1 hot I hf st hg
    subst hP hw hK
    obtain ⟨f0, f1, f2, f3, f4, f5⟩ := hf
    exact HotX.pyNext_range_end_hot hot st (by have : n ≤ i := hg; omega) fun h' eb => ⟨rfl, I.turned (t' := s.toks) (fun b o _ e => eb b o e) f0 f1 f3 f4 f5⟩
  self := fun _ _ _ _ _ st h => wpAny_pyIter_rangeiter st h
def PIEK (X : Cx) (pins : List (Addr × Obj)) (σ : L2.St) (tg : Expr) (R : It → Hp → Prop) (itv : Value) (s2 : Shared) : Prop :=
  ∃ (it : Addr) (tn : Nat → Heap → Prop) (J : It) (H' : Hp), itv = .ref it ∧ Inv X pins σ H' s2 ∧ TurnK X.prog X.w X.K tg J it tn ∧ tn 0 s2.heap ∧ FpOk X pins H' it ∧ R J H'
structure PIK (X : Cx) (tg iter : Expr) (wi : TI) : Prop where
  run : ∀ (pins : List (Addr × Obj)) (s : Shared) (σ : L2.St) (H : Hp) (R : It → Hp → Prop), Inv X pins σ H s → wi σ H R →
    wpAny (model X.prog X.w) X.A (eval iter X.env) (fun v s1 => wpAny (model X.prog X.w) X.A (pyIter v) (PIEK X pins σ tg R) X.xe s1) X.xe s
section
variable {X : Cx} {tg : Expr}
theorem range_itK {pins : List (Addr × Obj)} {σ : L2.St} {H : Hp} {s : Shared} {R : It → Hp → Prop} {E : Value → Shared → Prop} {lo hi : Int} {t u v : Tok} {tk : Nat} (I : Inv X pins σ H s) (h1 : -(2 ^ 62) ≤ lo) (h2 : lo < 2 ^ 62) (h3 : -(2 ^ 62) ≤ hi) (h4 : hi < 2 ^ 62)
    (q : R (Itr lo (hi - lo).toNat) H) : wpAny (model X.prog X.w) X.A (pyIter (.ref s.heap.objs.size)) (PIEK X pins σ tg R) E { s with heap := s.heap.push { cls := .type "range", data := .fields #[.int lo t, .int hi u, .int 1 v] }, toks := tk } := by
  refine wpAny_pyIter_range (IsRange.new ..) (small_one h1 h2 h3 h4) ?_
  have I1 : Inv X pins σ H { s with heap := s.heap.push { cls := .type "range", data := .fields #[.int lo t, .int hi u, .int 1 v] }, toks := tk } := I.kept fun b o e => Heap.get?_push_of_some _ e
  refine ⟨_, _, _, H, rfl, I1.kept (t' := tk) fun b o e => Heap.get?_push_of_some _ e, turnK_range _ lo (hi - lo).toNat, ?_, I1.fpOk (Nat.le_refl _) (I1.hok.fresh (Nat.le_refl _)), q⟩
  have e1 : lo + ((0 : Nat) : Int) * 1 = lo := by simp
  have e2 : (((hi - lo).toNat : Nat) : Int) - ((0 : Nat) : Int) = Builtin.Range.rangeSize lo hi 1 := by rw [rangeSize_one]; split <;> omega
  show IsRangeIter _ _ (lo + ((0 : Nat) : Int) * 1) ((((hi - lo).toNat : Nat) : Int) - ((0 : Nat) : Int)) 1
  rw [e1, e2]
  exact Heap.get?_push_size _ rfl
theorem pik_rng1 {a : Expr} {ta : TA} {p pos : Pos} (hg : Gl X "range") (hm : X.mg "range" = none) (ha : PA X [a] ta) (hs : starEach [a] X.env = [(false, eval a X.env)] := by rfl) : PIK X tg (.Call (.Name "range" p) [a] [] pos) (iRng1 ta) := by
  refine ⟨fun pins s σ H R I h => ?_⟩
  refine Call_ (ld_blt I hg hm boot_range (PyProof.Rows.callWith_type1 (thn (ha.run pos pins s σ H _ I h) fun us s1 ⟨vs, H1, I1, r1, q1⟩ => ?_) hs rfl))
  obtain ⟨hi, e, q1, q2, q⟩ := q1
  subst e
  cases r1 with
  | cons r rr =>
    cases rr
    obtain ⟨t, rfl⟩ := r
    exact call_range_1 (range_itK I1 (by omega) (by omega) q1 q2 (by simpa using q))
theorem takesN0 {X : Cx} : L2N.Takes X (fun _ _ _ _ => False) := fun _ _ x => by
  obtain ⟨_, _, _, _, _, _, _, _, _, _, _, _, _, _, _, _, z⟩ := x
  exact z.elim
theorem lc_coreK {pins : List (Addr × Obj)} {s : Shared} {σ : L2.St} {H : Hp} {Q : VK} {elt iter : Expr} {ifs : List Expr} {scope : Scope} {own : List (Str × Nat)} {pos pos' : Pos} {wi : TI} {g : TG} {tt : TT} {te : TE} {use : Option (Value → PySem.Sem Unit)} {Qf : Value → Shared → Prop}
    (hc : HotC X) (hN : X.N.Nodup) (I : Inv X pins σ H s) (hi : PIK X tg iter wi) (ok : BlkOk X.N X.env.scope scope own)
    (hg : ∀ (s : Shared) (H : Hp) (C : Addr) (cl : List (Str × Addr)) (fp : List Addr), PG (X.blk s H scope (compEnvC scope cl C X.env) fp) tg g) (ht : ∀ (s : Shared) (H : Hp) (C : Addr) (cl : List (Str × Addr)) (fp : List Addr), PTs (X.blk s H scope (compEnvC scope cl C X.env) fp) ifs tt)
    (he : ∀ (s : Shared) (H : Hp) (C : Addr) (cl : List (Str × Addr)) (fp : List Addr), PE (X.blk s H scope (compEnvC scope cl C X.env) fp) elt te) (hs : ∀ x, foldedSetIterable iter X.env x = pure x)
    (h : tLc wi g tt te (own.map (·.2)) σ H Q)
    (hRR : ∀ D C s' m H', Inv X pins σ H' s' → Q (.ref D) H' → s'.heap.Ns C m → FpOk X pins H' C → compPost (model X.prog X.w) X.A X.xe use Qf (.ref D) C (.ok .next) s') :
    wpAny (model X.prog X.w) X.A (comprehension (.ListComp elt [⟨tg, iter, ifs, 0⟩] scope pos) scope X.env pos' (newList []) false (eval iter X.env) use) Qf X.xe s := by
  have hfree : ∀ y ∈ scope.names, y.2 = .free → ∃ c, X.env.cells.lookup y.1 = some c := fun y hy e => (ok.free y hy e).elim (fun k => I.ok.has _ (.inl k)) fun k => I.ok.has _ (.inr k)
  refine wpAny_comprehension_free (use := use) rfl hs (closure_ok hfree) ok.kind (fun y hy e => by rw [ok.uniq y hy, e]) (thn (hi.run pins s σ H _ I h) fun xv s1 hx => thn hx fun itv s2 h2 => ?_)
  obtain ⟨it, tn, J, H2, e, I2, T, st2, f2, q⟩ := h2
  subst e
  refine wpAny_newObj_type (newEnv_comp ?_) (by show 0 ≤ sizeLine; decide)
  generalize hD : s2.heap.objs.size = D
  have hDn : H2 D = none := I2.hok.fresh (Nat.le_of_eq hD)
  obtain ⟨W, ⟨m0, w0⟩, turn⟩ := q D hDn
  generalize hs3 : ({ s2 with heap := s2.heap.push { cls := .type "list", data := .seq ([] : List Value).toArray } } : Shared) = s3
  have h3 : s3.heap = s2.heap.push { cls := .type "list", data := .seq ([] : List Value).toArray } := by rw [← hs3]
  have I3 : Inv X pins σ (upd H2 D (.lst [])) s3 := by
    rw [← hs3]
    refine I2.laid (t' := s2.toks) (fun b o e => Heap.get?_push_of_some _ e) (Nat.le_of_eq hD) ⟨Nat.zero_le _, [], 0, .nil, ?_⟩
    rw [← hD]
    exact Heap.get?_push_size _ rfl
  have hlt : it < s2.heap.objs.size := by
    obtain ⟨o, e, _⟩ := T.obj _ _ st2
    exact Heap.lt_size e
  have f3 : FpOk X pins (upd H2 D (.lst [])) it := ⟨by rw [upd_ne (by rw [← hD]; exact Nat.ne_of_lt hlt)]; exact f2.1, f2.2⟩
  have f3s : it < s3.heap.objs.size := by rw [h3, Heap.size_push]; exact Nat.lt_succ_of_lt hlt
  have f3L : ∀ b ∈ [it], FpOk X pins (upd H2 D (.lst [])) b ∧ b < s3.heap.objs.size := fun b hb => by
    rw [List.mem_singleton.mp hb]
    exact ⟨f3, f3s⟩
  have st3 : tn 0 s3.heap := T.keep _ _ _ st2 fun o e => by rw [h3]; exact Heap.get?_push_of_some _ e
  have I4 := block_start I3 ok hN f3L
  have pg := hg s3 (upd H2 D (.lst [])) s3.heap.objs.size (cellsFrom (s3.heap.objs.size + 1) scope.names (cloFrom X.env.cells scope.names [])) [it]
  have pt := ht s3 (upd H2 D (.lst [])) s3.heap.objs.size (cellsFrom (s3.heap.objs.size + 1) scope.names (cloFrom X.env.cells scope.names [])) [it]
  have pe := he s3 (upd H2 D (.lst [])) s3.heap.objs.size (cellsFrom (s3.heap.objs.size + 1) scope.names (cloFrom X.env.cells scope.names [])) [it]
  show codeAny _ _ (.compStart (.ListComp elt [⟨tg, iter, ifs, 0⟩] scope pos) 0 (.ref it) (.ref D) (compEnvC scope (cellsFrom (s3.heap.objs.size + 1) scope.names (cloFrom X.env.cells scope.names [])) s3.heap.objs.size X.env)) (compPost (model X.prog X.w) X.A X.xe use Qf (.ref D) s3.heap.objs.size) { s3 with heap := pushCells (s3.heap.push { cls := .type "dict", data := .dict #[] }) scope.names }
  have nit : (upd H2 D (.lst [])) it = none := f3.1
  generalize hce : compEnvC scope (cellsFrom (s3.heap.objs.size + 1) scope.names (cloFrom X.env.cells scope.names [])) s3.heap.objs.size X.env = ce at I4 pg pt pe ⊢
  have cL : ce.locals = s3.heap.objs.size := by subst hce; rfl
  generalize hH3 : upd H2 D (.lst []) = H3 at I3 I4 pg pt pe w0 nit f3 f3L
  generalize hs4 : ({ s3 with heap := pushCells (s3.heap.push { cls := .type "dict", data := .dict #[] }) scope.names } : Shared) = s4 at I4 ⊢
  have st4 : tn 0 s4.heap := T.keep _ _ _ st3 fun o e => by rw [← hs4]; exact pushCells_keeps _ _ _ _ (Heap.get?_push_of_some _ e)
  have stat : ∀ {σ' : L2.St} {H' : Hp} {s' : Shared}, Inv (X.blk s3 H3 scope ce [it]) [] σ' H' s' → H' it = none → FpOk (X.blk s3 H3 scope ce [it]) [] H' it := fun {σ' H' s'} I' hn =>
    ⟨hn, (I'.ok.exf it (List.mem_singleton.mpr rfl)).1, I'.ok.exfs it (List.mem_singleton.mpr rfl), .inl (List.mem_singleton.mpr rfl), fun x c e => (I'.ok.exf it (List.mem_singleton.mpr rfl)).2 x c e, fun p hp => absurd (show p ∈ ([] : List (Addr × Obj)) ++ [] from hp) (by simp)⟩
  -- the handled exception stands as it was
  have hotB : ∀ {σ' : L2.St} {H' : Hp} {s' : Shared}, Inv (X.blk s3 H3 scope ce [it]) [] σ' H' s' → ∃ x1, HotX.HotAt X.A x1 s'.heap := fun {σ' H' s'} I' => by
    obtain ⟨p, ⟨hh, v1, e1, c1⟩, hp⟩ := hc
    have P := I3.pin p (List.mem_append_left _ hp)
    have nS : p.1 ∉ frs X.stack := fun hm => (List.mem_cons.mp (I3.stkSub p.1 hm)).elim P.2.2.1 P.2.2.2.1
    have nI : p.1 ∉ [it] := fun hm => f3.2.2.2.2.2 p (List.mem_append_left _ hp) (List.mem_singleton.mp hm)
    exact ⟨p.1, hh, p.2, v1, I'.base.keep p.1 p.2 P.1 P.2.1 nS nI, e1, c1⟩
  have loop : codeAny (model X.prog X.w) X.A (.compLoop (.ListComp elt [⟨tg, iter, ifs, 0⟩] scope pos) 0 (.ref it) (.ref D) ce) (compPost (model X.prog X.w) X.A X.xe use Qf (.ref D) s3.heap.objs.size) s4 := by
    refine compLoop_any (fun n s' => ∃ i H', Inv (X.blk s3 H3 scope ce [it]) [] (wipe σ (own.map (·.2))) H' s' ∧ tn i s'.heap ∧ H' it = none ∧ W i n H') ?_ m0 ⟨0, H3, I4, st4, nit, w0⟩
    rintro n s5 ⟨i, H5, I5, st5, n5, w5⟩
    rcases turn i n H5 w5 with ⟨stop, qq⟩ | ⟨go, Nx, hNx, step⟩
    · obtain ⟨x1, hot⟩ := hotB I5
      refine thnF (T.done (X.blk s3 H3 scope ce [it]) rfl rfl rfl i [] s5 _ H5 (fun _ _ => False) x1 hot I5 (stat I5 n5) st5 stop) fun r s6 ⟨hr, I6⟩ => ?_
      subst hr
      have I7 : Inv X pins σ H5 s6 := I3.call' (ch := [it]) I6.os I6.base I6.hok I6.bare fun b hb => by
        rw [List.mem_singleton.mp hb]
        exact ⟨f3.2.2.2.1, f3.2.1, f3.2.2.2.2.1, f3.2.2.2.2.2⟩
      have nC : H5 s3.heap.objs.size = none := by
        rw [← cL]
        exact I6.free
      obtain ⟨m, hn, _⟩ := I6.loc
      have hn : s6.heap.Ns ce.locals m := hn
      rw [cL] at hn
      exact hRR D s3.heap.objs.size s6 m H5 I7 qq hn (I3.fpOk (Nat.le_refl _) nC)
    · refine thnF (T.item (X.blk s3 H3 scope ce [it]) rfl rfl rfl i [] s5 _ H5 (fun _ _ => False) I5 (stat I5 n5) st5 go) fun r s6 ⟨u, hr, h6⟩ => ?_
      subst hr
      refine thnF h6 fun _ s7 ⟨x, H7, I7, r7, y7, st7, n7⟩ => ?_
      have I7' := I7.pinned (fp := [it]) (fun b hb => by rw [List.mem_singleton.mp hb]; exact stat I7 n7) (fun b hb => by rw [List.mem_singleton.mp hb]; exact T.obj _ _ st7)
      refine thnF (pg.run _ s7 _ H7 x u _ I7' r7 (step x H7 y7)) fun _ s8 ⟨σ8, H8, I8, hw8, q8⟩ => ?_
      refine thnF (pt.run _ s8 σ8 H8 _ I8 q8) fun b s9 ⟨H9, I9, q9⟩ => ?_
      have fin : ∀ {s' : Shared} {H' : Hp}, Inv (X.blk s3 H3 scope ce [it]) ([] ++ pinsAt [it] s7.heap) σ8 H' s' → Nx H' → ∃ m, m < n ∧ ∃ i H', Inv (X.blk s3 H3 scope ce [it]) [] (wipe σ (own.map (·.2))) H' s' ∧ tn i s'.heap ∧ H' it = none ∧ W i m H' := fun {s' H'} I' nx => by
        obtain ⟨m', hm, w'⟩ := hNx H' nx
        have pin' : ∀ o, s7.heap.get? it = some o → s'.heap.get? it = some o ∧ H' it = none := fun o e =>
          let z := I'.pin (it, o) (List.mem_append_right _ (List.mem_append_right _ (mem_pinsAt (List.mem_singleton.mpr rfl) e)))
          ⟨z.1, z.2.1⟩
        have hl : (wipe σ (own.map (·.2))).length = σ8.length := by rw [← hw8, wipe_length]
        obtain ⟨o, eo, _⟩ := T.obj _ _ st7
        refine ⟨m', hm, i + 1, H', (I'.unpinned (pins := [])).weak hl (fun j v e => ?_), T.keep _ _ _ st7 fun o e => (pin' o e).1, (pin' o eo).2, w'⟩
        rw [← hw8] at e
        exact (wipe_some e).1
      cases b with
      | false =>
        simp only [Bool.false_eq_true, if_false] at q9 ⊢
        exact fin I9 q9
      | true =>
        simp only [if_true] at q9 ⊢
        refine thnF (pe.run _ s9 σ8 H9 _ I9 q9) fun z s10 ⟨yv, H10, I10, r10, acc, hD10, hz10, nx⟩ => ?_
        exact app_ok (X := X.blk s3 H3 scope ce [it]) I10 hD10 hz10 r10 fun s11 I11 => fin I11 nx
  exact codeAny_compStart_list loop (T.self X.A 0 _ _ _ st4 loop)
theorem pe_lcK {elt iter : Expr} {ifs : List Expr} {scope : Scope} {own : List (Str × Nat)} {pos : Pos} {wi : TI} {g : TG} {tt : TT} {te : TE} (hc : HotC X) (hN : X.N.Nodup) (hi : PIK X tg iter wi) (ok : BlkOk X.N X.env.scope scope own)
    (hg : ∀ (s : Shared) (H : Hp) (C : Addr) (cl : List (Str × Addr)) (fp : List Addr), PG (X.blk s H scope (compEnvC scope cl C X.env) fp) tg g) (ht : ∀ (s : Shared) (H : Hp) (C : Addr) (cl : List (Str × Addr)) (fp : List Addr), PTs (X.blk s H scope (compEnvC scope cl C X.env) fp) ifs tt)
    (he : ∀ (s : Shared) (H : Hp) (C : Addr) (cl : List (Str × Addr)) (fp : List Addr), PE (X.blk s H scope (compEnvC scope cl C X.env) fp) elt te) (hs : ∀ x, foldedSetIterable iter X.env x = pure x := by intro _; rfl) :
    PE X (.ListComp elt [⟨tg, iter, ifs, 0⟩] scope pos) (tLc wi g tt te (own.map (·.2))) := by
  refine ⟨fun pins s σ H Q I h => ?_⟩
  rw [eval_ListComp]
  refine lc_coreK hc hN I hi ok hg ht he hs h fun D C s' m H' I' q hn f => ⟨m, hn, fun h'' sb => ?_⟩
  obtain ⟨f0, f1, f2, f3, f4, f5⟩ := f
  exact ⟨.ref D, H', I'.turned (t' := s'.toks) (fun b o hb e => (sb.2 b hb).trans e) f0 f1 f3 f4 f5, rfl, q⟩
end
section
variable {X : Cx} {W : WX}
def DIK (X : Cx) (W : WX) (lo : Bool) (tg iter : Expr) (m : M (List D)) : Prop := PIK X tg iter (tG (Cx.g X) W m (rI (Cx.g X) lo))
theorem pik_weak {tg e : Expr} {t t' : TI} (h : PIK X tg e t) (w : ∀ σ H Q, t' σ H Q → t σ H Q) : PIK X tg e t' := ⟨fun pins s σ H Q I q => h.run pins s σ H Q I (w σ H Q q)⟩
theorem dik_rng1 {lb : Bool} {tg a : Expr} {p pos : Pos} {ma : M AV} (hg : Gl X "range") (hm : X.mg "range" = none) (ha : DO X W a ma) (hs : starEach [a] X.env = [(false, eval a X.env)] := by rfl) (hs2 : starEach [a] X.env = (false, eval a X.env) :: starEach [] X.env := by rfl) : DIK X W lb tg (.Call (.Name "range" p) [a] [] pos) (mOpL gRng1 [ma]) :=
  pik_weak (pik_rng1 hg hm (da_cons ha da_nil hs2) hs) fun σ H Q ⟨B, r, O, h⟩ => by
    refine tG.of (h.opsL.mono ?_)
    rintro vs H1 ⟨B1, xs, ds, sb, p, hg, q⟩
    unfold gRng1 at hg
    split at hg
    · rename_i j
      split at hg
      · rename_i hj
        cases hg
        cases p with
        | cons p1 p =>
          cases p
          cases dp_int p1
          obtain ⟨h1, h2⟩ := okR_of hj
          refine ⟨j, rfl, h1, h2, q _ ?_⟩
          have := serves_range (lb := lb) (K := X.K) (B0 := B1) (lo := 0) (hi := j)
          rwa [Int.sub_zero] at this
      · cases hg
    · cases hg
theorem de_lcK {lo : Bool} {elt tg iter : Expr} {ifs : List Expr} {scope : Scope} {own : List (Str × Nat)} {pos : Pos} {mi : M (List D)} {ix : List Nat} {set : D → S} {t : M Bool} {me : M RV} (hc : HotC X) (hN : X.N.Nodup) (hi : DIK X W lo tg iter mi) (ok : BlkOk X.N X.env.scope scope own)
    (hg : ∀ (s : Shared) (H : Hp) (C : Addr) (cl : List (Str × Addr)) (fp : List Addr), DG (X.blk s H scope (compEnvC scope cl C X.env) fp) lo tg ix set) (ht : ∀ (s : Shared) (H : Hp) (C : Addr) (cl : List (Str × Addr)) (fp : List Addr), DTs (X.blk s H scope (compEnvC scope cl C X.env) fp) W0 ifs t)
    (he : ∀ (s : Shared) (H : Hp) (C : Addr) (cl : List (Str × Addr)) (fp : List Addr), DE (X.blk s H scope (compEnvC scope cl C X.env) fp) W0 elt me) (hix : ∀ j ∈ ix, j ∈ own.map (·.2)) (hs : ∀ x, foldedSetIterable iter X.env x = pure x := by intro _; rfl) :
    DE X W (.ListComp elt [⟨tg, iter, ifs, 0⟩] scope pos) (mLc (own.map (·.2)) mi set t me) :=
  pe_weak (pe_lcK (g := gD X.K lo ix set) (tt := tG (Cx.g X) W0 t rB) (te := tG (Cx.g X) W0 me (rV (Cx.g X))) hc hN hi ok hg ht he hs) fun σ H Q h => lc_read hix h
/-- the suite of a caught exception whose context is None -/
theorem hot_suite {a : Addr} {oe : Obj} {pn : List (Addr × Obj)} {cls : Value} {d : Option Addr} (hz : L2N.Zn cls d oe) (hf : ∃ vs, oe.data = .fields vs) : HotC (X.suite a ((a, oe) :: pn)) := by
  obtain ⟨vs, hv⟩ := hf
  exact ⟨(a, oe), ⟨rfl, vs, hv, hz.2.2 vs hv⟩, List.mem_cons_self⟩
end
theorem two_SX {X : Cx} {i : Nat} {b₀ : Stmt} {suite : List Stmt} {x y : String} {C D : Addr} {m1 m2 : S} (gC : X.mg (Str.ofString x) = some (.ref C)) (gD : X.mg (Str.ofString y) = some (.ref D)) (hne : y ≠ x)
    (h : ∀ (a : Addr) (oe : Obj) (pn : List (Addr × Obj)), L2N.Zn (.ref C) none oe → (∃ vs, oe.data = .fields vs) → PSs (X.suite a ((a, oe) :: pn)) (b₀ :: suite) (tX X (fun _ _ _ _ => False) i a m1))
    (h2 : ∀ (a : Addr) (oe : Obj) (pn : List (Addr × Obj)), L2N.Zn (.ref D) none oe → (∃ vs, oe.data = .fields vs) → PSs (X.suite a ((a, oe) :: pn)) (b₀ :: suite) (tX X (fun _ _ _ _ => False) i a m2)) :
    ∀ n ∈ [x, y], ∀ C', X.mg (Str.ofString n) = some (.ref C') → ∀ (a : Addr) (oe : Obj) (pn : List (Addr × Obj)), L2N.Zn (.ref C') none oe → (∃ vs, oe.data = .fields vs) → PSs (X.suite a ((a, oe) :: pn)) (b₀ :: suite) (tX X (fun _ _ _ _ => False) i a (exSelS x m1 m2 n)) :=
  two_SS (P := fun m C => ∀ (a : Addr) (oe : Obj) (pn : List (Addr × Obj)), L2N.Zn (.ref C) none oe → (∃ vs, oe.data = .fields vs) → PSs (X.suite a ((a, oe) :: pn)) (b₀ :: suite) (tX X (fun _ _ _ _ => False) i a m)) gC gD hne h h2
end DL
end

section
namespace DL
open PySem
end DL
end

section
namespace DL
open PySem PySem.Spec PySem.Calls PyProof.Rows L2
section
variable {X : Cx} {W : WX}
end
end DL
end

section
namespace DL
open PySem
/-- an expression's end -/
def endP {α : Type} (X : Exn → Ro → Prop) (Q : α → Ro → Prop) : EO α → Ro → Prop
  | .ok a, r => Q a r
  | .exc x, r => X x r
@[simp, simp ↓] theorem endP_ok {α : Type} {X : Exn → Ro → Prop} {Q : α → Ro → Prop} {a : α} {r : Ro} : endP X Q (.ok a) r = Q a r := rfl
@[simp, simp ↓] theorem endP_exc {α : Type} {X : Exn → Ro → Prop} {Q : α → Ro → Prop} {x : Exn} {r : Ro} : endP X Q (.exc x) r = X x r := rfl
theorem endP.mono {α : Type} {X X' : Exn → Ro → Prop} {Q Q' : α → Ro → Prop} {o : EO α} {r : Ro} (h : endP X Q o r) (i : ∀ a r, Q a r → Q' a r) (j : ∀ x r, X x r → X' x r) : endP X' Q' o r := by
  cases o with
  | ok a => exact i _ _ h
  | exc x => exact j _ _ h
/-- a mark: what it speaks of is not looked into -/
inductive Tok {β : Type} (Q : β) : Type where
  | tok
/-- the option holds a value, of which Q holds -/
def optP {α : Type} (o : Option α) (Q : α → Prop) (t : Tok Q := .tok) : Prop := ∃ v, o = some v ∧ Q v
@[simp, simp ↓] theorem optP_some {α : Type} {v : α} {Q : α → Prop} : optP (some v) Q ↔ Q v := by simp [optP]
@[simp, simp ↓] theorem optP_none {α : Type} {Q : α → Prop} : optP none Q ↔ False := by simp [optP]
@[simp, simp ↓] theorem optP_map {α β : Type} {o : Option α} {f : α → β} {Q : β → Prop} : optP (o.map f) Q ↔ optP o fun a => Q (f a) := by cases o <;> simp
@[simp, simp ↓] theorem optP_bind {α β : Type} {o : Option α} {f : α → Option β} {Q : β → Prop} : optP (o.bind f) Q ↔ optP o fun a => optP (f a) Q := by cases o <;> simp
@[simp, simp ↓] theorem optP_ite {α : Type} {c : Prop} [Decidable c] {x : α} {Q : α → Prop} : optP (if c then some x else none) Q ↔ c ∧ Q x := by by_cases h : c <;> simp [h]
/-- the slots changed -/
def setP (r : Ro) (i : Nat) (x : Sl) (k : Ro → Prop) : Prop := k (r.set i x)
@[simp, simp ↓] theorem setP_0 {a x : Sl} {r : Ro} {k : Ro → Prop} : setP (a :: r) 0 x k ↔ k (x :: r) := Iff.rfl
@[simp, simp ↓] theorem setP_s {a x : Sl} {r : Ro} {n : Nat} {k : Ro → Prop} : setP (a :: r) (n + 1) x k ↔ setP r n x fun r' => k (a :: r') := Iff.rfl
/-- a fork -/
def ifP (x : Bool) (A B : Prop) (t : Tok A := .tok) (u : Tok B := .tok) : Prop := (x = true → A) ∧ (x = false → B)
@[simp, simp ↓] theorem ifP_true {A B : Prop} : ifP true A B ↔ A := by simp [ifP]
@[simp, simp ↓] theorem ifP_false {A B : Prop} : ifP false A B ↔ B := by simp [ifP]
@[simp, simp ↓] theorem ifP_not {x : Bool} {A B : Prop} : ifP (!x) A B ↔ ifP x B A := by cases x <;> simp
@[simp] theorem ifP_dec {c : Prop} [Decidable c] {A B : Prop} : ifP (decide c) A B ↔ (c → A) ∧ (¬ c → B) := by by_cases h : c <;> simp [h]
/-- the expression answers a value, of which Q holds, or raises what X says -/
def E {α : Type} (X : Exn → Ro → Prop) (m : M α) (r : Ro) (Q : α → Ro → Prop) : Prop := ∃ o r', m r = some (o, r') ∧ endP X Q o r'
/-- the statement ends so that Q holds -/
def W (s : S) (r : Ro) (Q : SO → Ro → Prop) : Prop := ∃ o r', s r = some (o, r') ∧ Q o r'
/-- the def answers so that Q holds -/
def Oks (f : Sem) (xs : List Rs) (Q : EO RV → List Rs → Prop) : Prop := ∃ o ys, f xs = some (o, ys) ∧ Q o ys
theorem E.mono {α : Type} {X : Exn → Ro → Prop} {m : M α} {r : Ro} {Q Q' : α → Ro → Prop} (h : E X m r Q) (i : ∀ a r, Q a r → Q' a r) : E X m r Q' := by
  obtain ⟨a, r', e, q⟩ := h
  exact ⟨a, r', e, q.mono i fun _ _ h => h⟩
theorem W.mono {s : S} {r : Ro} {Q Q' : SO → Ro → Prop} (h : W s r Q) (i : ∀ o r, Q o r → Q' o r) : W s r Q' := by
  obtain ⟨a, r', e, q⟩ := h
  exact ⟨a, r', e, i _ _ q⟩
theorem Oks.mono {f : Sem} {xs : List Rs} {Q Q' : EO RV → List Rs → Prop} (h : Oks f xs Q) (i : ∀ v ys, Q v ys → Q' v ys) : Oks f xs Q' := by
  obtain ⟨a, r', e, q⟩ := h
  exact ⟨a, r', e, i _ _ q⟩
theorem E_some {α : Type} {X : Exn → Ro → Prop} {m : M α} {r r' : Ro} {a : α} {Q : α → Ro → Prop} (h : m r = some (.ok a, r')) : E X m r Q ↔ Q a r' :=
  ⟨fun ⟨b, r2, e, q⟩ => (by rw [h] at e; cases e; exact q), fun q => ⟨.ok a, r', h, q⟩⟩
theorem E_exc {α : Type} {X : Exn → Ro → Prop} {m : M α} {r r' : Ro} {x : Exn} {Q : α → Ro → Prop} (h : m r = some (.exc x, r')) : E X m r Q ↔ X x r' :=
  ⟨fun ⟨b, r2, e, q⟩ => (by rw [h] at e; cases e; exact q), fun q => ⟨.exc x, r', h, q⟩⟩
theorem E_no {α : Type} {X : Exn → Ro → Prop} {m : M α} {r : Ro} {Q : α → Ro → Prop} (h : m r = none) : E X m r Q ↔ False :=
  ⟨fun ⟨b, r2, e, q⟩ => (by rw [h] at e; cases e), fun q => q.elim⟩
section
variable {α β : Type} {X : Exn → Ro → Prop} {r : Ro}
@[simp, simp ↓] theorem E_bind {m : M α} {f : α → M β} {Q : β → Ro → Prop} : E X (m.bind f) r Q ↔ E X m r fun a r' => E X (f a) r' Q := by
  cases hm : m r with
  | none => rw [E_no hm, E_no (by simp only [M.bind, hm])]
  | some p =>
    obtain ⟨o, r1⟩ := p
    cases o with
    | ok a =>
      rw [E_some hm]
      unfold E M.bind
      rw [hm]
    | exc x => rw [E_exc hm, E_exc (by simp only [M.bind, hm]; rfl)]
@[simp, simp ↓] theorem E_ret {a : α} {Q : α → Ro → Prop} : E X (M.ret a) r Q ↔ Q a r := E_some rfl
@[simp, simp ↓] theorem E_of {o : Option α} {Q : α → Ro → Prop} : E X (M.of o) r Q ↔ optP o fun a => Q a r := by
  cases o with
  | none => rw [E_no rfl]; simp
  | some a => rw [E_some (m := M.of (some a)) (r := r) (a := a) (r' := r) rfl]; simp
@[simp, simp ↓] theorem E_mC {d : D} {Q : RV → Ro → Prop} : E X (mC d) r Q ↔ Q (.val d) r := E_ret
@[simp, simp ↓] theorem E_mYes {Q : Bool → Ro → Prop} : E X mYes r Q ↔ Q true r := E_ret
def rdP (i : Nat) (r : Ro) (Q : RV → Ro → Prop) (x : Option Sl) (t : Tok Q := .tok) : Prop := match x with
  | some (.frz _ d) => Q (.val d) r
  | some (.own b (.lst ds)) => setP r i (.frz b (.list ds)) (Q (.val (.list ds)))
  | some (.own b (.ll rows)) => setP r i (.frz b (.list (rows.map .list))) (Q (.val (.list (rows.map .list))))
  | _ => False
@[simp, simp ↓] theorem rdP_frz {i : Nat} {b : Bool} {d : D} {Q : RV → Ro → Prop} : rdP i r Q (some (.frz b d)) = Q (.val d) r := rfl
@[simp, simp ↓] theorem rdP_lst {i : Nat} {b : Bool} {ds : List D} {Q : RV → Ro → Prop} : rdP i r Q (some (.own b (.lst ds))) = setP r i (.frz b (.list ds)) (Q (.val (.list ds))) := rfl
@[simp, simp ↓] theorem rdP_ll {i : Nat} {b : Bool} {rows : List (List D)} {Q : RV → Ro → Prop} : rdP i r Q (some (.own b (.ll rows))) = setP r i (.frz b (.list (rows.map .list))) (Q (.val (.list (rows.map .list)))) := rfl
@[simp, simp ↓] theorem E_mRd {i : Nat} {Q : RV → Ro → Prop} : E X (mRd i) r Q ↔ rdP i r Q (r[i]?) := by
  cases h : r[i]? with
  | none => rw [E_no (by simp only [mRd, h])]; simp [rdP]
  | some x => cases x with
    | non => rw [E_no (by simp only [mRd, h])]; simp [rdP]
    | frz b d => rw [E_some (by simp only [mRd, h]; rfl)]; simp [rdP]
    | own b c => cases c with
      | lst ds => rw [E_some (by simp only [mRd, h]; rfl)]; simp [rdP, setP]
      | ll ds => rw [E_some (by simp only [mRd, h]; rfl)]; simp [rdP, setP]
      | dK ds => rw [E_no (by simp only [mRd, h])]; simp [rdP]
      | dT ds => rw [E_no (by simp only [mRd, h])]; simp [rdP]
      | dl ds => rw [E_no (by simp only [mRd, h])]; simp [rdP]
    | al j k => rw [E_no (by simp only [mRd, h])]; simp [rdP]
@[simp] theorem look_val {d : D} : look r (.val d) = some (.fz d) := rfl
@[simp] theorem look2_val {d : D} : look2 r (.val d) = some (.fz d) := rfl
def lookSl : Option Sl → Option Rs
  | some (.frz _ d) => some (.fz d)
  | some (.own _ c) => some (.ow c)
  | _ => none
def lookAl (r : Ro) (k : Nat) : Option Sl → Option Rs
  | some (.own _ (.ll rows)) => rows[k]?.map fun ds => .ow (.lst ds)
  | _ => none
def lookSl2 (r : Ro) : Option Sl → Option Rs
  | some (.frz _ d) => some (.fz d)
  | some (.own _ c) => some (.ow c)
  | some (.al j k) => lookAl r k r[j]?
  | _ => none
@[simp] theorem lookSl_frz {b : Bool} {d : D} : lookSl (some (.frz b d)) = some (.fz d) := rfl
@[simp] theorem lookSl_own {b : Bool} {c : Ct} : lookSl (some (.own b c)) = some (.ow c) := rfl
@[simp] theorem lookSl2_frz {b : Bool} {d : D} : lookSl2 r (some (.frz b d)) = some (.fz d) := rfl
@[simp] theorem lookSl2_own {b : Bool} {c : Ct} : lookSl2 r (some (.own b c)) = some (.ow c) := rfl
@[simp] theorem lookSl2_al {j k : Nat} : lookSl2 r (some (.al j k)) = lookAl r k r[j]? := rfl
@[simp] theorem lookAl_ll {b : Bool} {k : Nat} {rows : List (List D)} : lookAl r k (some (.own b (.ll rows))) = rows[k]?.map fun ds => .ow (.lst ds) := rfl
@[simp] theorem look_slot {i : Nat} : look r (.slot i) = lookSl r[i]? := by
  unfold look lookSl
  cases h : r[i]? with
  | none => simp [h]
  | some x => cases x <;> simp [h]
@[simp] theorem look2_slot {i : Nat} : look2 r (.slot i) = lookSl2 r r[i]? := by
  unfold look2 lookSl2
  cases h : r[i]? with
  | none => simp [h]
  | some x =>
    cases x with
    | al j k =>
      simp only [h]
      unfold lookAl
      cases h2 : r[j]? with
      | none => simp
      | some y => cases y with
        | own b c => cases c <;> simp
        | _ => simp
    | _ => simp [h]
@[simp, simp ↓] theorem E_oS {i : Nat} {Q : AV → Ro → Prop} : E X (oS i) r Q ↔ optP (lookSl2 r r[i]?) fun _ => Q (.slot i) r := by
  cases h : lookSl2 r r[i]? with
  | none => rw [E_no (by simp only [oS, look2_slot, h])]; simp
  | some x => rw [E_some (by simp only [oS, look2_slot, h]; rfl)]; simp
@[simp] theorem data_val {d : D} : (RV.val d).data = some d := rfl
@[simp] theorem data_lst {ds : List D} : (RV.new (.lst ds)).data = some (.list ds) := rfl
@[simp] theorem rdata_fz {d : D} : (Rs.fz d).data = some d := rfl
@[simp] theorem rdata_lst {ds : List D} : (Rs.ow (.lst ds)).data = some (.list ds) := rfl
@[simp, simp ↓] theorem E_oE {m : M RV} {Q : AV → Ro → Prop} : E X (oE m) r Q ↔ E X m r fun v r' => optP v.data fun d => Q (.val d) r' := by
  unfold oE
  rw [E_bind]
  constructor
  · intro h
    refine h.mono fun v r' h => ?_
    rw [E_of] at h
    obtain ⟨a, e, q⟩ := h
    cases hv : v.data with
    | none => rw [hv] at e; cases e
    | some d => rw [hv] at e; cases e; exact ⟨d, rfl, q⟩
  · intro h
    refine h.mono fun v r' h => ?_
    obtain ⟨d, e, q⟩ := h
    rw [E_of, e]
    exact ⟨_, rfl, q⟩
@[simp, simp ↓] theorem E_oL_nil {Q : List AV → Ro → Prop} : E X (oL []) r Q ↔ Q [] r := E_ret
@[simp, simp ↓] theorem E_oL_cons {m : M AV} {ms : List (M AV)} {Q : List AV → Ro → Prop} : E X (oL (m :: ms)) r Q ↔ E X m r fun a r1 => E X (oL ms) r1 fun as r2 => Q (a :: as) r2 := by
  show E X (m.bind fun a => (oL ms).bind fun as => M.ret (a :: as)) r Q ↔ _
  simp only [E_bind, E_ret]
@[simp] theorem looks2_nil : looks2 r [] = some [] := rfl
@[simp] theorem looks_nil : looks r [] = some [] := rfl
def consO : Option Rs → Option (List Rs) → Option (List Rs)
  | some x, some xs => some (x :: xs)
  | _, _ => none
@[simp] theorem consO_some {x : Rs} {xs : List Rs} : consO (some x) (some xs) = some (x :: xs) := rfl
@[simp] theorem consO_none {xs : Option (List Rs)} : consO none xs = none := by cases xs <;> rfl
@[simp] theorem looks2_cons {a : AV} {as : List AV} : looks2 r (a :: as) = consO (look2 r a) (looks2 r as) := by
  show (match look2 r a, looks2 r as with | some x, some xs => some (x :: xs) | _, _ => none) = _
  cases look2 r a <;> cases looks2 r as <;> rfl
@[simp] theorem looks_cons {a : AV} {as : List AV} : looks r (a :: as) = consO (look r a) (looks r as) := by
  show (match look r a, looks r as with | some x, some xs => some (x :: xs) | _, _ => none) = _
  cases look r a <;> cases looks r as <;> rfl
@[simp, simp ↓] theorem E_mFin {g : List Rs → Option RV} {as : List AV} {Q : RV → Ro → Prop} : E X (mFin g as) r Q ↔ optP (looks2 r as) fun xs => optP (g xs) fun v => Q v r := by
  cases h : looks2 r as with
  | none => rw [E_no (by simp only [mFin, h])]; simp
  | some xs => cases h2 : g xs with
    | none => rw [E_no (by simp [mFin, h, h2])]; simp [h2]
    | some v => rw [E_some (by simp only [mFin, h, h2]; rfl)]; simp [h2]
@[simp, simp ↓] theorem E_mOp {g : List Rs → Option RV} {os : List (M AV)} {Q : RV → Ro → Prop} : E X (mOp g os) r Q ↔ E X (oL os) r fun as r' => optP (looks2 r' as) fun xs => optP (g xs) fun v => Q v r' := by
  unfold mOp
  simp only [E_bind, E_mFin]
@[simp, simp ↓] theorem E_mOpL {g : List Rs → Option (List D)} {os : List (M AV)} {Q : List D → Ro → Prop} : E X (mOpL g os) r Q ↔ E X (oL os) r fun as r' => optP (looks2 r' as) fun xs => optP (g xs) fun v => Q v r' := by
  refine Iff.trans (E_bind (m := oL os)) ?_
  constructor
  · intro h
    refine h.mono fun as r' h => ?_
    obtain ⟨v, r2, e, q⟩ := h
    cases h2 : looks2 r' as with
    | none => simp [h2] at e
    | some xs => cases h3 : g xs with
      | none => simp [h2, h3] at e
      | some v => simp [h2, h3] at e; obtain ⟨rfl, rfl⟩ := e; exact ⟨xs, rfl, v, h3, q⟩
  · intro h
    refine h.mono fun as r' h => ?_
    obtain ⟨xs, e1, v, e2, q⟩ := h
    exact ⟨.ok v, r', by simp only [e1, e2]; rfl, q⟩
@[simp, simp ↓] theorem E_mTst {m : M RV} {Q : Bool → Ro → Prop} : E X (mTst m) r Q ↔ E X m r fun v r' => optP (boolV v) fun b => Q b r' := by
  unfold mTst
  simp only [E_bind, E_of]
@[simp] theorem boolV_b {b : Bool} : boolV (.val (.bool b)) = some b := rfl
@[simp, simp ↓] theorem E_mNot {m : M Bool} {Q : Bool → Ro → Prop} : E X (mNot m) r Q ↔ E X m r fun b r' => Q (!b) r' := by
  unfold mNot
  simp only [E_bind, E_ret]
@[simp, simp ↓] theorem E_mAnd {a b : M Bool} {Q : Bool → Ro → Prop} : E X (mAnd a b) r Q ↔ E X a r fun x r' => ifP x (E X b r' Q) (Q false r') := by
  unfold mAnd
  rw [E_bind]
  constructor <;> exact fun h => h.mono fun x r' h => by cases x <;> simpa using h
@[simp, simp ↓] theorem E_mOr {a b : M Bool} {Q : Bool → Ro → Prop} : E X (mOr a b) r Q ↔ E X a r fun x r' => ifP x (Q true r') (E X b r' Q) := by
  unfold mOr
  rw [E_bind]
  constructor <;> exact fun h => h.mono fun x r' h => by cases x <;> simpa using h
@[simp, simp ↓] theorem E_mFz {m : M RV} {Q : D → Ro → Prop} : E X (mFz m) r Q ↔ E X m r fun v r' => optP v.data fun d => Q d r' := by
  unfold mFz
  simp only [E_bind, E_of]
def andP (X : Exn → Ro → Prop) (b : M RV) (r : Ro) (Q : RV → Ro → Prop) : RV → Prop
  | .val (.bool true) => E X b r Q
  | .val (.bool false) => Q (.val (.bool false)) r
  | _ => False
@[simp, simp ↓] theorem andP_b {b : M RV} {x : Bool} {Q : RV → Ro → Prop} : andP X b r Q (.val (.bool x)) ↔ ifP x (E X b r Q) (Q (.val (.bool false)) r) := by cases x <;> simp [andP]
theorem E_none {Q : α → Ro → Prop} : ¬ E X (M.of none) r Q := fun h => (E_no rfl).mp h
@[simp, simp ↓] theorem E_mAndV {a b : M RV} {Q : RV → Ro → Prop} : E X (mAndV a b) r Q ↔ E X a r fun v r' => andP X b r' Q v := by
  unfold mAndV
  rw [E_bind]
  constructor
  · exact fun h => h.mono fun v r' h => by
      cases v with
      | new c => exact (E_none h).elim
      | val d => cases d with
        | bool x => cases x with
          | false => exact E_ret.mp h
          | true => exact h
        | _ => exact (E_none h).elim
  · exact fun h => h.mono fun v r' h => by
      cases v with
      | new c => exact h.elim
      | val d => cases d with
        | bool x => cases x with
          | false => exact E_ret.mpr h
          | true => exact h
        | _ => exact h.elim
def notP (r : Ro) (Q : RV → Ro → Prop) : RV → Prop
  | .val (.bool b) => Q (.val (.bool !b)) r
  | _ => False
@[simp, simp ↓] theorem notP_b {x : Bool} {Q : RV → Ro → Prop} : notP r Q (.val (.bool x)) = Q (.val (.bool !x)) r := rfl
@[simp, simp ↓] theorem E_mNotV {a : M RV} {Q : RV → Ro → Prop} : E X (mNotV a) r Q ↔ E X a r fun v r' => notP r' Q v := by
  unfold mNotV
  rw [E_bind]
  constructor
  · exact fun h => h.mono fun v r' h => by
      cases v with
      | new c => exact (E_none h).elim
      | val d => cases d with
        | bool x => exact E_ret.mp h
        | _ => exact (E_none h).elim
  · exact fun h => h.mono fun v r' h => by
      cases v with
      | new c => exact h.elim
      | val d => cases d with
        | bool x => exact E_ret.mpr h
        | _ => exact h.elim
@[simp, simp ↓] theorem E_mRow {m : M RV} {Q : List D → Ro → Prop} : E X (mRow m) r Q ↔ E X m r fun v r' => optP v.data fun d => optP (rowOf d) fun xs => Q xs r' := by
  unfold mRow
  simp only [E_bind, E_of, E_mFz]
@[simp] theorem rowOf_l {xs : List D} : rowOf (.list xs) = some xs := rfl
@[simp] theorem rowOf_t {xs : List D} : rowOf (.tuple xs) = some xs := rfl
/-- a call -/
def backP (r : Ro) (as : List AV) (xs ys : List Rs) (k : Ro → Prop) : Prop := k (putBack r as xs ys)
@[simp, simp ↓] theorem backP_nil {r : Ro} {k : Ro → Prop} : backP r [] [] [] k ↔ k r := Iff.rfl
@[simp, simp ↓] theorem backP_val {d : D} {as : List AV} {x y : Rs} {xs ys : List Rs} {k : Ro → Prop} : backP r (.val d :: as) (x :: xs) (y :: ys) k ↔ backP r as xs ys k := by
  cases x <;> exact Iff.rfl
@[simp, simp ↓] theorem backP_fz {i : Nat} {d : D} {as : List AV} {y : Rs} {xs ys : List Rs} {k : Ro → Prop} : backP r (.slot i :: as) (.fz d :: xs) (y :: ys) k ↔ backP r as xs ys k := Iff.rfl
def put1P (i : Nat) (y : Rs) (r : Ro) (k : Ro → Prop) (x : Option Sl) (t : Tok k := .tok) : Prop := match x with
  | some (.own b _) => setP r i (backSl b y) k
  | _ => k r
@[simp, simp ↓] theorem put1P_own {i : Nat} {y : Rs} {b : Bool} {c : Ct} {k : Ro → Prop} : put1P i y r k (some (.own b c)) ↔ setP r i (backSl b y) k := Iff.rfl
@[simp, simp ↓] theorem backP_ow {i : Nat} {c : Ct} {as : List AV} {y : Rs} {xs ys : List Rs} {k : Ro → Prop} : backP r (.slot i :: as) (.ow c :: xs) (y :: ys) k ↔ put1P i y r (fun r' => backP r' as xs ys k) r[i]? := by
  show k (putBack (put1 r i y) as xs ys) ↔ _
  unfold put1 put1P
  cases r[i]? with
  | none => exact Iff.rfl
  | some x => cases x <;> exact Iff.rfl
def callP (o : Option (EO RV × List Rs)) (n : Nat) (k : EO RV → List Rs → Prop) (t : Tok k := .tok) : Prop := ∃ v ys, o = some (v, ys) ∧ ys.length = n ∧ k v ys
@[simp, simp ↓] theorem callP_ok {v : EO RV} {ys : List Rs} {n : Nat} {k : EO RV → List Rs → Prop} : callP (some (v, ys)) n k ↔ ys.length = n ∧ k v ys := ⟨fun ⟨a, b, e, q⟩ => (by cases e; exact q), fun q => ⟨v, ys, rfl, q⟩⟩
@[simp, simp ↓] theorem E_mCall {f : Sem} {ms : List (M AV)} {Q : RV → Ro → Prop} : E X (mCall f ms) r Q ↔ E X (oL ms) r fun as r' => optP (looks r' as) fun xs => (ownIx as xs).Nodup ∧ (ownIx as xs).all (noAl r') = true ∧ callP (f xs) xs.length fun o ys => backP r' as xs ys fun r' => endP X Q o r' := by
  refine Iff.trans (E_bind (m := oL ms)) ?_
  constructor
  · intro h
    refine h.mono fun as r' h => ?_
    obtain ⟨v, r2, e, q⟩ := h
    cases h2 : looks r' as with
    | none => simp [h2] at e
    | some xs =>
      simp only [h2] at e
      split at e
      · rename_i hc
        cases h3 : f xs with
        | none => simp [h3] at e
        | some p =>
          obtain ⟨o, ys⟩ := p
          simp only [h3] at e
          split at e
          · cases e
            exact ⟨xs, rfl, hc.1, hc.2, _, ys, h3, by assumption, q⟩
          · cases e
      · cases e
  · intro h
    refine h.mono fun as r' h => ?_
    obtain ⟨xs, e1, e2, e3, v, ys, e4, e5, q⟩ := h
    exact ⟨v, _, by simp only [e1, e4]; rw [if_pos ⟨e2, e3⟩, if_pos e5], q⟩
end
end DL
end

section
namespace DL
open PySem
theorem W_some {s : S} {r r' : Ro} {o : SO} {Q : SO → Ro → Prop} (h : s r = some (o, r')) : W s r Q ↔ Q o r' :=
  ⟨fun ⟨b, r2, e, q⟩ => (by rw [h] at e; cases e; exact q), fun q => ⟨o, r', h, q⟩⟩
theorem W_no {s : S} {r : Ro} {Q : SO → Ro → Prop} (h : s r = none) : W s r Q ↔ False :=
  ⟨fun ⟨b, r2, e, q⟩ => (by rw [h] at e; cases e), fun q => q.elim⟩
def thenP (b : S) (Q : SO → Ro → Prop) : SO → Ro → Prop
  | .nx, r => W b r Q
  | o, r => Q o r
section
variable {r : Ro} {Q : SO → Ro → Prop}
@[simp, simp ↓] theorem thenP_nx {b : S} : thenP b Q .nx r = W b r Q := rfl
@[simp, simp ↓] theorem thenP_ret {b : S} {v : RV} : thenP b Q (.ret v) r = Q (.ret v) r := rfl
@[simp, simp ↓] theorem thenP_rets {b : S} {i : Nat} : thenP b Q (.rets i) r = Q (.rets i) r := rfl
@[simp, simp ↓] theorem thenP_exc {b : S} {x : Exn} : thenP b Q (.exc x) r = Q (.exc x) r := rfl
@[simp, simp ↓] theorem thenP_brk {b : S} : thenP b Q .brk r = Q .brk r := rfl
@[simp, simp ↓] theorem thenP_cnt {b : S} : thenP b Q .cnt r = Q .cnt r := rfl
@[simp, simp ↓] theorem W_nx : W sNx r Q ↔ Q .nx r := W_some rfl
@[simp, simp ↓] theorem W_seq {a b : S} : W (sSeq a b) r Q ↔ W a r (thenP b Q) := by
  constructor
  · rintro ⟨o, r', e, q⟩
    unfold sSeq at e
    cases h : a r with
    | none => simp [h] at e
    | some p =>
      obtain ⟨o1, r1⟩ := p
      rw [h] at e
      refine ⟨o1, r1, h, ?_⟩
      cases o1 with
      | nx => exact ⟨o, r', e, q⟩
      | _ => simp only [Option.some.injEq, Prod.mk.injEq] at e; obtain ⟨rfl, rfl⟩ := e; exact q
  · rintro ⟨o1, r1, h, q⟩
    cases o1 with
    | nx =>
      obtain ⟨o, r', e, q⟩ := q
      exact ⟨o, r', by unfold sSeq; rw [h]; exact e, q⟩
    | _ => exact ⟨_, r1, by unfold sSeq; rw [h], q⟩
@[simp, simp ↓] theorem W_ex {α : Type} {m : M α} {k : α → S} : W (sEx m k) r Q ↔ E (fun x => Q (.exc x)) m r fun a r' => W (k a) r' Q := by
  cases hm : m r with
  | none => rw [E_no hm, W_no (by simp only [sEx, hm])]
  | some p =>
    obtain ⟨o, r1⟩ := p
    cases o with
    | ok a =>
      rw [E_some hm]
      unfold W sEx
      rw [hm]
    | exc x => rw [E_exc hm, W_some (by simp only [sEx, hm]; rfl)]
@[simp, simp ↓] theorem W_ret {m : M RV} : W (sRet m) r Q ↔ E (fun x => Q (.exc x)) m r fun v r' => Q (.ret v) r' := by
  refine Iff.trans (W_ex (m := m)) ?_
  constructor <;> exact fun h => h.mono fun v r' q => by
    first | exact (W_some rfl).mp q | exact (W_some rfl).mpr q
@[simp, simp ↓] theorem W_if {t : M Bool} {a b : S} : W (sIf t a b) r Q ↔ E (fun x => Q (.exc x)) t r fun x r' => ifP x (W a r' Q) (W b r' Q) := by
  refine Iff.trans (W_ex (m := t)) ?_
  constructor <;> exact fun h => h.mono fun v r' q => by cases v <;> simpa using q
@[simp, simp ↓] theorem W_drop {m : M RV} : W (sDrop m) r Q ↔ E (fun x => Q (.exc x)) m r fun _ r' => Q .nx r' := by
  refine Iff.trans (W_ex (m := m)) ?_
  simp only [W_nx]
def putP (i : Nat) (v : RV) (r : Ro) (Q : SO → Ro → Prop) (x : Option Sl) (t : Tok Q := .tok) : Prop := match x with
  | none => False
  | some x => putSl.pinnedB x = false ∧ match v with
    | .val d => setP r i (.frz false d) (Q .nx)
    | .new (.ll rows) => noAl r i = true ∧ setP r i (.own false (.ll rows)) (Q .nx)
    | .new c => setP r i (.own false c) (Q .nx)
@[simp, simp ↓] theorem putP_val {i : Nat} {d : D} {x : Sl} : putP i (.val d) r Q (some x) ↔ putSl.pinnedB x = false ∧ setP r i (.frz false d) (Q .nx) := Iff.rfl
@[simp, simp ↓] theorem putP_ll {i : Nat} {rows : List (List D)} {x : Sl} : putP i (.new (.ll rows)) r Q (some x) ↔ putSl.pinnedB x = false ∧ noAl r i = true ∧ setP r i (.own false (.ll rows)) (Q .nx) := Iff.rfl
@[simp, simp ↓] theorem putP_lst {i : Nat} {ds : List D} {x : Sl} : putP i (.new (.lst ds)) r Q (some x) ↔ putSl.pinnedB x = false ∧ setP r i (.own false (.lst ds)) (Q .nx) := Iff.rfl
@[simp, simp ↓] theorem putP_dK {i : Nat} {ds : List (Ky × D)} {x : Sl} : putP i (.new (.dK ds)) r Q (some x) ↔ putSl.pinnedB x = false ∧ setP r i (.own false (.dK ds)) (Q .nx) := Iff.rfl
@[simp] theorem pinned_frz {b : Bool} {d : D} : putSl.pinnedB (.frz b d) = b := rfl
@[simp] theorem pinned_own {b : Bool} {c : Ct} : putSl.pinnedB (.own b c) = b := rfl
@[simp] theorem pinned_non : putSl.pinnedB .non = false := rfl
@[simp] theorem pinned_al {j k : Nat} : putSl.pinnedB (.al j k) = false := rfl
@[simp, simp ↓] theorem W_put {i : Nat} {v : RV} : W (putSl i v) r Q ↔ putP i v r Q r[i]? := by
  cases h : r[i]? with
  | none => rw [W_no (by simp [putSl, h])]; exact Iff.rfl
  | some x =>
    cases hp : putSl.pinnedB x with
    | true => rw [W_no (by simp [putSl, h, hp])]; simp [putP, hp, setP]
    | false =>
      cases v with
      | val d => rw [W_some (by simp [putSl, h, hp]; exact ⟨rfl, rfl⟩)]; simp [putP, hp, setP]
      | new c => cases c with
        | ll rows =>
          cases hn : noAl r i with
          | true => rw [W_some (by simp [putSl, h, hp, hn]; exact ⟨rfl, rfl⟩)]; simp [putP, hp, hn, setP]
          | false => rw [W_no (by simp [putSl, h, hp, hn])]; simp [putP, hp, hn, setP]
        | _ => rw [W_some (by simp [putSl, h, hp]; exact ⟨rfl, rfl⟩)]; simp [putP, hp, setP]
@[simp, simp ↓] theorem W_setN {i : Nat} {d : D} : W (setN i d) r Q ↔ putP i (.val d) r Q r[i]? := W_put
@[simp, simp ↓] theorem W_set {i : Nat} {m : M RV} : W (sSet i m) r Q ↔ E (fun x => Q (.exc x)) m r fun v r' => putP i v r' Q r'[i]? := by
  refine Iff.trans (W_ex (m := m)) ?_
  simp only [W_put]
@[simp, simp ↓] theorem W_sets_nil : W (sets [] []) r Q ↔ Q .nx r := W_nx
@[simp, simp ↓] theorem W_sets_cons {f : D → S} {fs : List (D → S)} {d : D} {ds : List D} : W (sets (f :: fs) (d :: ds)) r Q ↔ W (f d) r (thenP (sets fs ds) Q) := W_seq
@[simp, simp ↓] theorem W_setT {fs : List (D → S)} {ds : List D} : W (setT fs (.tuple ds)) r Q ↔ W (sets fs ds) r Q := Iff.rfl
@[simp, simp ↓] theorem W_par {i j : Nat} {m n : M RV} : W (sPar i j m n) r Q ↔ E (fun x => Q (.exc x)) m r fun v r1 => optP v.data fun d => E (fun x => Q (.exc x)) n r1 fun u r2 => optP u.data fun e => putP i (.val d) r2 (thenP (putSl j (.val e)) Q) r2[i]? := by
  unfold sPar
  simp only [W_ex, E_mFz, W_seq, W_put]
@[simp, simp ↓] theorem W_unp {m : M RV} {set : D → S} : W (sUnp m set) r Q ↔ E (fun x => Q (.exc x)) m r fun v r1 => optP v.data fun d => W (set d) r1 Q := by
  unfold sUnp
  simp only [W_ex, E_mFz]
def loopP (I : Ro → Prop) (Q : SO → Ro → Prop) : SO → Ro → Prop
  | .nx, r => I r
  | .cnt, r => I r
  | .brk, r => Q .nx r
  | o, r => Q o r
@[simp, simp ↓] theorem loopP_nx {I : Ro → Prop} : loopP I Q .nx r = I r := rfl
@[simp, simp ↓] theorem loopP_cnt {I : Ro → Prop} : loopP I Q .cnt r = I r := rfl
@[simp, simp ↓] theorem loopP_brk {I : Ro → Prop} : loopP I Q .brk r = Q .nx r := rfl
@[simp, simp ↓] theorem loopP_rets {I : Ro → Prop} {i : Nat} : loopP I Q (.rets i) r = Q (.rets i) r := rfl
@[simp, simp ↓] theorem loopP_exc {I : Ro → Prop} {x : Exn} : loopP I Q (.exc x) r = Q (.exc x) r := rfl
@[simp, simp ↓] theorem loopP_ret {I : Ro → Prop} {v : RV} : loopP I Q (.ret v) r = Q (.ret v) r := rfl
def nxP (body : S) (P : SO → Ro → Prop) : SO → Ro → Prop
  | .nx, r => W body r P
  | _, _ => False
@[simp, simp ↓] theorem nxP_nx {b : S} {P : SO → Ro → Prop} : nxP b P .nx r = W b r P := rfl
theorem forS_nil {set : D → S} {body : S} : Q .nx r → W (forS set body []) r Q := fun h => W_nx.mpr h
theorem forS_cons {set : D → S} {body : S} {d : D} {ds : List D} (h : W (set d) r (nxP body (loopP (fun r => W (forS set body ds) r Q) Q))) : W (forS set body (d :: ds)) r Q := by
  obtain ⟨o, r1, e1, h⟩ := h
  cases o with
  | nx =>
    obtain ⟨o, r2, e2, h⟩ := h
    cases o with
    | nx =>
      obtain ⟨o, r3, e3, q⟩ := h
      exact ⟨o, r3, by unfold forS; simp only [e1, e2]; exact e3, q⟩
    | cnt =>
      obtain ⟨o, r3, e3, q⟩ := h
      exact ⟨o, r3, by unfold forS; simp only [e1, e2]; exact e3, q⟩
    | brk => exact ⟨.nx, r2, by unfold forS; simp only [e1, e2], h⟩
    | ret v => exact ⟨.ret v, r2, by unfold forS; simp only [e1, e2], h⟩
    | rets i => exact ⟨.rets i, r2, by unfold forS; simp only [e1, e2], h⟩
    | exc x => exact ⟨.exc x, r2, by unfold forS; simp only [e1, e2], h⟩
  | _ => exact h.elim
/-- a for loop by an invariant: I k before the k-th item -/
theorem forS_inv {set : D → S} {body : S} (I : Nat → Ro → Prop) : ∀ (ds : List D) (n : Nat) (r : Ro), I n r →
    (∀ k d r, ds[k]? = some d → I (n + k) r → W (set d) r (nxP body (loopP (I (n + k + 1)) Q))) → (∀ r, I (n + ds.length) r → Q .nx r) → W (forS set body ds) r Q := by
  intro ds
  induction ds with
  | nil => intro n r h _ hq; exact forS_nil (hq _ h)
  | cons d ds ih =>
    intro n r h step hq
    refine forS_cons ((step 0 d r rfl h).mono fun o r1 h1 => ?_)
    cases o with
    | nx =>
      refine W.mono h1 fun o r2 h2 => ?_
      have go : I (n + 1) r2 → W (forS set body ds) r2 Q := fun h2 => ih (n + 1) r2 h2 (fun k d r e h => by
        have := step (k + 1) d r e (by rw [show n + (k + 1) = n + 1 + k by omega]; exact h)
        rw [show n + (k + 1) + 1 = n + 1 + k + 1 by omega] at this
        exact this) fun r h => hq r (by rw [show n + (d :: ds).length = n + 1 + ds.length by simp; omega]; exact h)
      cases o with
      | nx => exact go h2
      | cnt => exact go h2
      | brk => exact h2
      | ret v => exact h2
      | rets i => exact h2
      | exc x => exact h2
    | _ => exact h1.elim
@[simp, simp ↓] theorem W_for {mi : M (List D)} {set : D → S} {body : S} : W (sFor mi set body) r Q ↔ E (fun x => Q (.exc x)) mi r fun ds r' => W (forS set body ds) r' Q := W_ex
/-- range's items -/
theorem rng0_get {n : Int} {k : Nat} {d : D} (h : (rng 0 n)[k]? = some d) : d = .int k ∧ (k : Int) < n := by
  unfold rng at h
  rw [List.getElem?_map] at h
  cases h2 : (List.range (n - 0).toNat)[k]? with
  | none => rw [h2] at h; cases h
  | some j =>
    rw [h2] at h
    obtain ⟨h3, h4⟩ := List.getElem?_eq_some_iff.mp h2
    simp at h3 h4
    subst h4
    cases h
    exact ⟨by simp, by omega⟩
theorem rng0_len {n : Int} : (rng 0 n).length = n.toNat := by simp [rng]
def updK (r : Ro) (i : Nat) (ds : List D) (k : Ro → Prop) : Prop := k (updSl r i ds)
def updP (i : Nat) (ds : List D) (r : Ro) (K : Ro → Prop) (x : Option Sl) (t : Tok K := .tok) : Prop := match x with
  | some (.own b _) => setP r i (.own b (.lst ds)) K
  | some (.al j k) => match r[j]? with
    | some (.own b (.ll rows)) => setP r j (.own b (.ll (rows.set k ds))) K
    | _ => K r
  | _ => K r
def updAl (j k : Nat) (ds : List D) (r : Ro) (K : Ro → Prop) (x : Option Sl) (t : Tok K := .tok) : Prop := match x with
  | some (.own b (.ll rows)) => setP r j (.own b (.ll (rows.set k ds))) K
  | _ => K r
@[simp, simp ↓] theorem updP_own {i : Nat} {ds : List D} {b : Bool} {c : Ct} {K : Ro → Prop} : updP i ds r K (some (.own b c)) ↔ setP r i (.own b (.lst ds)) K := Iff.rfl
@[simp, simp ↓] theorem updAl_ll {j k : Nat} {ds : List D} {b : Bool} {rows : List (List D)} {K : Ro → Prop} : updAl j k ds r K (some (.own b (.ll rows))) ↔ setP r j (.own b (.ll (rows.set k ds))) K := Iff.rfl
@[simp, simp ↓] theorem updP_al {i j k : Nat} {ds : List D} {K : Ro → Prop} : updP i ds r K (some (.al j k)) ↔ updAl j k ds r K r[j]? := Iff.rfl
@[simp, simp ↓] theorem updK_def {i : Nat} {ds : List D} {K : Ro → Prop} : updK r i ds K ↔ updP i ds r K r[i]? := by
  unfold updK updSl updP
  cases r[i]? with
  | none => exact Iff.rfl
  | some x => cases x with
    | al j k =>
      simp only []
      cases r[j]? with
      | none => exact Iff.rfl
      | some y => cases y with
        | own b c => cases c <;> exact Iff.rfl
        | _ => exact Iff.rfl
    | _ => exact Iff.rfl
def lstO : Option Rs → Option (List D)
  | some (.ow (.lst ds)) => some ds
  | _ => none
@[simp] theorem lstO_lst {ds : List D} : lstO (some (.ow (.lst ds))) = some ds := rfl
@[simp] theorem listAt_def {i : Nat} : listAt r i = lstO (lookSl2 r r[i]?) := by
  unfold listAt
  rw [look2_slot]
  rfl
def mutP (X : Exn → Ro → Prop) (g : List D → List D → Option (List D × D)) (i : Nat) (ms : List (M AV)) (Q : RV → Ro → Prop) (r : Ro) (x : Option (List D)) (t : Tok Q := .tok) (u : Tok X := .tok) (w : Tok ms := .tok) : Prop := match x with
  | none => False
  | some _ => E X (oL ms) r fun as r' => optP (listAt r' i) fun ds => optP (looks2 r' as) fun xs => optP (dataAll xs) fun es => optP (g ds es) fun p => updK r' i p.1 (Q (.val p.2))
@[simp, simp ↓] theorem mutP_some {X : Exn → Ro → Prop} {g : List D → List D → Option (List D × D)} {i : Nat} {ms : List (M AV)} {Q : RV → Ro → Prop} {ds : List D} : mutP X g i ms Q r (some ds) ↔ E X (oL ms) r fun as r' => optP (listAt r' i) fun ds => optP (looks2 r' as) fun xs => optP (dataAll xs) fun es => optP (g ds es) fun p => updK r' i p.1 (Q (.val p.2)) := Iff.rfl
@[simp, simp ↓] theorem E_mMut {X : Exn → Ro → Prop} {g : List D → List D → Option (List D × D)} {i : Nat} {ms : List (M AV)} {Q : RV → Ro → Prop} :
    E X (mMut g i ms) r Q ↔ mutP X g i ms Q r (listAt r i) := by
  cases h : listAt r i with
  | none => rw [E_no (by simp only [mMut, h])]; exact Iff.rfl
  | some ds0 =>
    rw [mutP_some]
    have e0 : ∀ f : List AV → M RV, (mMut g i ms r = (oL ms).bind f r) → (E X (mMut g i ms) r Q ↔ E X ((oL ms).bind f) r Q) := fun f e => by
      unfold E
      rw [e]
    refine (e0 _ (by unfold mMut; rw [h]; rfl)).trans ?_
    refine Iff.trans (E_bind (m := oL ms)) ?_
    constructor
    · intro h
      refine h.mono fun as r' h => ?_
      obtain ⟨v, r2, e, q⟩ := h
      cases h2 : listAt r' i with
      | none => simp only [h2] at e; cases e
      | some ds =>
        cases h3 : looks2 r' as with
        | none => simp only [h2, h3] at e; cases e
        | some xs =>
          cases h4 : dataAll xs with
          | none => simp only [h2, h3, h4] at e; cases e
          | some es =>
            cases h5 : g ds es with
            | none => simp only [h2, h3, h4, h5] at e; cases e
            | some p =>
              simp only [h2, h3, h4, h5] at e
              cases e
              exact ⟨ds, rfl, xs, rfl, es, h4, p, h5, q⟩
    · intro h
      refine h.mono fun as r' h => ?_
      obtain ⟨ds, h2, xs, h3, es, h4, p, h5, q⟩ := h
      exact ⟨.ok _, _, by simp only [h2, h3, h4, h5]; rfl, q⟩
def intO : D → Option Int
  | .int n => some n
  | _ => none
@[simp] theorem intO_i {n : Int} : intO (.int n) = some n := rfl
def subP (i : Nat) (d : D) (mi : M AV) (Q : SO → Ro → Prop) (r : Ro) (x : Option (List D)) (t : Tok Q := .tok) (u : Tok mi := .tok) : Prop := match x with
  | none => False
  | some _ => E (fun x => Q (.exc x)) mi r fun a r2 => optP (listAt r2 i) fun ds => optP (((look2 r2 a).bind Rs.data).bind intO) fun n => optP (ixD ds.length n) fun k => updK r2 i (ds.set k d) (Q .nx)
@[simp, simp ↓] theorem subP_some {i : Nat} {d : D} {mi : M AV} {ds : List D} : subP i d mi Q r (some ds) ↔ E (fun x => Q (.exc x)) mi r fun a r2 => optP (listAt r2 i) fun ds => optP (((look2 r2 a).bind Rs.data).bind intO) fun n => optP (ixD ds.length n) fun k => updK r2 i (ds.set k d) (Q .nx) := Iff.rfl
theorem W_congr {s s' : S} (h : s r = s' r) : W s r Q ↔ W s' r Q := by
  unfold W
  rw [h]
def subIn (i : Nat) (d : D) (a : AV) : S := fun r => match listAt r i, (look2 r a).bind Rs.data with
  | some ds, some (.int n) => (ixD ds.length n).map fun k => (.nx, updSl r i (ds.set k d))
  | _, _ => none
def subS (i : Nat) (d : D) (mi : M AV) : S := fun r => match listAt r i with
  | none => none
  | some _ => sEx mi (subIn i d) r
theorem W_subS {i : Nat} {d : D} {mi : M AV} : W (subS i d mi) r Q ↔ subP i d mi Q r (listAt r i) := by
  cases h : listAt r i with
  | none => rw [W_no (by simp only [subS, h])]; exact Iff.rfl
  | some ds0 =>
    refine (W_congr (s' := sEx mi (subIn i d)) (by simp only [subS, h])).trans ?_
    rw [subP_some]
    refine Iff.trans (W_ex (m := mi)) ?_
    constructor
    · intro h
      refine h.mono fun a r2 h => ?_
      obtain ⟨o, r3, e, q⟩ := h
      cases h2 : listAt r2 i with
      | none => simp only [subIn, h2] at e; cases e
      | some ds =>
        cases h3 : (look2 r2 a).bind Rs.data with
        | none => simp only [subIn, h2, h3] at e; cases e
        | some x =>
          cases x with
          | int n =>
            cases h4 : ixD ds.length n with
            | none => simp only [subIn, h2, h3, h4] at e; cases e
            | some k =>
              simp only [subIn, h2, h3, h4] at e
              cases e
              exact ⟨ds, rfl, n, rfl, k, h4, q⟩
          | _ => simp only [subIn, h2, h3] at e; cases e
    · intro h
      refine h.mono fun a r2 h => ?_
      obtain ⟨ds, h4, n, h5, k, h6, q⟩ := h
      cases h3 : (look2 r2 a).bind Rs.data with
      | none => rw [h3] at h5; cases h5
      | some x =>
        cases x with
        | int n => rw [h3] at h5; cases h5; exact ⟨.nx, updSl r2 i (ds.set k d), by simp only [subIn, h4, h3, h6]; rfl, q⟩
        | _ => rw [h3] at h5; cases h5
@[simp, simp ↓] theorem W_sub {i : Nat} {me : M RV} {mi : M AV} : W (sSub i me mi) r Q ↔ E (fun x => Q (.exc x)) me r fun v r1 => optP v.data fun d => subP i d mi Q r1 (listAt r1 i) := by
  refine Iff.trans (W_ex (m := mFz me) (k := fun d => subS i d mi)) ?_
  simp only [E_mFz, W_subS]
theorem W_al {i j : Nat} {mi : M AV} {b : Bool} {rows : List (List D)} (h0 : r[j]? = some (.own b (.ll rows))) : (E (fun x => Q (.exc x)) mi r fun a r2 => optP (((look2 r2 a).bind Rs.data).bind intO) fun n => ∃ b rows x, r2[j]? = some (.own b (.ll rows)) ∧ r2[i]? = some x ∧ i ≠ j ∧ putSl.pinnedB x = false ∧ optP (ixD rows.length n) fun k => setP r2 i (.al j k) (Q .nx)) → W (sAl i j mi) r Q := fun ⟨a, r2, e2, q⟩ => by
  cases a with
  | ok a =>
    obtain ⟨n, h2, b2, rows2, x, h1, h4, h5, h6, k, h3, q⟩ := q
    refine ⟨.nx, _, ?_, q⟩
    unfold sAl
    cases h7 : (look2 r2 a).bind Rs.data with
    | none => rw [h7] at h2; cases h2
    | some d => cases d with
      | int n' =>
        rw [h7] at h2
        cases h2
        simp only [h0, sEx, e2, h1, h7, h4]
        rw [if_pos ⟨h5, h6⟩, h3]
        rfl
      | _ => rw [h7] at h2; cases h2
  | exc x =>
    refine ⟨.exc x, r2, ?_, q⟩
    unfold sAl
    simp only [h0, sEx, e2]
def handP (xs : List Rs) (P : EO RV → List Rs → Prop) (i : Nat) (r : Ro) (x : Option Sl) (t : Tok P := .tok) : Prop := match x with
  | some (.own false c) => allFz xs = true ∧ setP r i .non fun r' => P (.ok (.new c)) (outs xs 0 r')
  | _ => False
@[simp, simp ↓] theorem handP_own {xs : List Rs} {P : EO RV → List Rs → Prop} {i : Nat} {c : Ct} : handP xs P i r (some (.own false c)) ↔ allFz xs = true ∧ setP r i .non fun r' => P (.ok (.new c)) (outs xs 0 r') := Iff.rfl
@[simp] theorem allFz_nil : allFz [] = true := rfl
@[simp] theorem allFz_cons {d : D} {xs : List Rs} : allFz (.fz d :: xs) = allFz xs := rfl
def retP (xs : List Rs) (P : EO RV → List Rs → Prop) : SO → Ro → Prop
  | .rets i, r => handP xs P i r r[i]?
  | .ret v, r => P (.ok v) (outs xs 0 r)
  | .nx, r => P (.ok (.val .none)) (outs xs 0 r)
  | .exc x, r => P (.exc x) (outs xs 0 r)
  | _, _ => False
@[simp, simp ↓] theorem retP_ret {xs : List Rs} {P : EO RV → List Rs → Prop} {v : RV} : retP xs P (.ret v) r = P (.ok v) (outs xs 0 r) := rfl
@[simp, simp ↓] theorem retP_rets {xs : List Rs} {P : EO RV → List Rs → Prop} {i : Nat} : retP xs P (.rets i) r = handP xs P i r r[i]? := rfl
@[simp, simp ↓] theorem retP_nx {xs : List Rs} {P : EO RV → List Rs → Prop} : retP xs P .nx r = P (.ok (.val .none)) (outs xs 0 r) := rfl
@[simp, simp ↓] theorem retP_exc {xs : List Rs} {P : EO RV → List Rs → Prop} {x : Exn} : retP xs P (.exc x) r = P (.exc x) (outs xs 0 r) := rfl
theorem oks_def {n N : Nat} {body : S} {xs : List Rs} {P : EO RV → List Rs → Prop} (hn : xs.length = n) (h : W body (xs.map toSl ++ List.replicate (N - n) .non) (retP xs P)) : Oks (defSem n N body) xs P := by
  obtain ⟨o, r, e, q⟩ := h
  unfold Oks defSem
  rw [if_pos hn, e]
  cases o with
  | ret v => exact ⟨_, _, rfl, q⟩
  | rets i =>
    change handP xs P i r r[i]? at q
    show ∃ o ys, handOn xs i r = some (o, ys) ∧ P o ys
    unfold handOn
    cases h : r[i]? with
    | none => rw [h] at q; exact q.elim
    | some x =>
      rw [h] at q
      cases x with
      | own b c =>
        cases b with
        | false => simp only [q.1, if_true]; exact ⟨_, _, rfl, q.2⟩
        | true => exact q.elim
      | _ => exact q.elim
  | nx => exact ⟨_, _, rfl, q⟩
  | exc x => exact ⟨_, _, rfl, q⟩
  | _ => exact q.elim
end
end DL
end

section
namespace DL
open PySem
/-- the product is no monster -/
def SmM (a b : Int) : Prop := a.natAbs.log2 + b.natAbs.log2 < 1000000
instance (a b : Int) : Decidable (SmM a b) := inferInstanceAs (Decidable (_ < _))
theorem log2_small {a : Int} (h : -(2 ^ 200) ≤ a ∧ a ≤ 2 ^ 200) : a.natAbs.log2 ≤ 200 := by
  by_cases h0 : a.natAbs = 0
  · rw [h0]; decide
  · have : a.natAbs < 2 ^ 201 := by omega
    exact Nat.le_of_lt_succ ((Nat.log2_lt h0).mpr this)
theorem smM_of {a b : Int} (ha : -(2 ^ 200) ≤ a ∧ a ≤ 2 ^ 200) (hb : -(2 ^ 200) ≤ b ∧ b ≤ 2 ^ 200) : SmM a b := by
  have h1 := log2_small ha
  have h2 := log2_small hb
  unfold SmM
  omega
def SmD (j : Int) : Prop := j.natAbs.log2 < 9000
instance (a : Int) : Decidable (SmD a) := inferInstanceAs (Decidable (_ < _))
theorem smD_of {b : Int} (hb : -(2 ^ 200) ≤ b ∧ b ≤ 2 ^ 200) : SmD b := by
  have h2 := log2_small hb
  unfold SmD
  omega
section
variable {a b : Int}
@[simp] theorem gAdd_ii : gAdd [.fz (.int a), .fz (.int b)] = some (.val (.int (a + b))) := rfl
@[simp] theorem gSub_ii : gSub [.fz (.int a), .fz (.int b)] = some (.val (.int (a - b))) := rfl
@[simp] theorem gMul_ii : gMul [.fz (.int a), .fz (.int b)] = if SmM a b then some (.val (.int (a * b))) else none := rfl
@[simp] theorem gMod_ii : gMod [.fz (.int a), .fz (.int b)] = if 0 < b then some (.val (.int (a % b))) else none := by
  show Option.map _ (if 0 < b then some _ else none) = _
  split <;> rfl
@[simp] theorem gDiv_ii : gDiv [.fz (.int a), .fz (.int b)] = if 0 < b ∧ SmD b then some (.val (.int (a / b))) else none := by
  show Option.map _ (if 0 < b ∧ SmD b then some _ else none) = _
  split <;> rfl
@[simp] theorem gPow_ii : gPow [.fz (.int a), .fz (.int b)] = if 0 ≤ b ∧ b ≤ 1000000 ∧ a.natAbs < 2 ^ 64 then some (.val (.int (a ^ b.toNat))) else none := by
  show Option.map _ (if 0 ≤ b ∧ b ≤ 1000000 ∧ a.natAbs < 2 ^ 64 then some _ else none) = _
  split <;> rfl
@[simp] theorem gLt_ii : gLt [.fz (.int a), .fz (.int b)] = some (.val (.bool (decide (a < b)))) := rfl
@[simp] theorem gLe_ii : gLe [.fz (.int a), .fz (.int b)] = some (.val (.bool (decide (a ≤ b)))) := rfl
@[simp] theorem gGt_ii : gGt [.fz (.int a), .fz (.int b)] = some (.val (.bool (decide (b < a)))) := rfl
@[simp] theorem gGe_ii : gGe [.fz (.int a), .fz (.int b)] = some (.val (.bool (decide (b ≤ a)))) := rfl
theorem eqv_ii : PyData.eqv (.int a) (.int b) = (a == b) := by unfold PyData.eqv; rfl
theorem okD_i : okD (.int a) = true := by
  unfold okD PyData.canLay0 PyData.depth
  rfl
@[simp] theorem gEq_ii : gEq [.fz (.int a), .fz (.int b)] = some (.val (.bool (decide (a = b)))) := by
  show (if okD (.int a) && okD (.int b) then some (RV.val (.bool (PyData.eqv (.int a) (.int b)))) else none) = _
  rw [okD_i, okD_i, eqv_ii]
  rfl
@[simp] theorem gNe_ii : gNe [.fz (.int a), .fz (.int b)] = some (.val (.bool (!decide (a = b)))) := by
  show (if okD (.int a) && okD (.int b) then some (RV.val (.bool (!PyData.eqv (.int a) (.int b)))) else none) = _
  rw [okD_i, okD_i, eqv_ii]
  rfl
@[simp] theorem gAbs_i : gAbs [.fz (.int a)] = some (.val (.int (if a < 0 then -a else a))) := rfl
@[simp] theorem gNeg_i : gNeg [.fz (.int a)] = some (.val (.int (-a))) := rfl
@[simp] theorem gMax2_ii : gMax2 [.fz (.int a), .fz (.int b)] = some (.val (.int (if b > a then b else a))) := rfl
@[simp] theorem gMin2_ii : gMin2 [.fz (.int a), .fz (.int b)] = some (.val (.int (if b < a then b else a))) := rfl
end
section
variable {xs ys : List D} {i : Int} {d : D}
@[simp] theorem gLen_t : gLen [.fz (.tuple xs)] = some (.val (.int xs.length)) := rfl
@[simp] theorem gLen_l : gLen [.fz (.list xs)] = some (.val (.int xs.length)) := rfl
@[simp] theorem gLen_o : gLen [.ow (.lst xs)] = some (.val (.int xs.length)) := rfl
@[simp] theorem gLen_dK {kvs : List (Ky × D)} : gLen [.ow (.dK kvs)] = some (.val (.int kvs.length)) := rfl
@[simp] theorem gLen_ll {rows : List (List D)} : gLen [.ow (.ll rows)] = some (.val (.int rows.length)) := rfl
def ixP (xs : List D) (i : Int) : Option D := (ixD xs.length i).bind fun j => xs[j]?
@[simp] theorem gIx_t : gIx [.fz (.tuple xs), .fz (.int i)] = (ixP xs i).map .val := rfl
@[simp] theorem gIx_l : gIx [.fz (.list xs), .fz (.int i)] = (ixP xs i).map .val := rfl
@[simp] theorem gIx_o : gIx [.ow (.lst xs), .fz (.int i)] = (ixP xs i).map .val := rfl
@[simp] theorem ixP_0 : ixP (d :: xs) 0 = some d := by
  unfold ixP ixD
  simp
theorem ixP_nat {k : Nat} {d : D} (h : xs[k]? = some d) : ixP xs (k : Int) = some d := by
  have := (List.getElem?_eq_some_iff.mp h).1
  unfold ixP ixD
  rw [if_pos (by omega), if_pos (by omega)]
  simpa using h
theorem ixP_pos {i : Int} {d : D} (h0 : 0 ≤ i) (h : xs[i.toNat]? = some d) : ixP xs i = some d := by
  have := ixP_nat h
  rwa [Int.toNat_of_nonneg h0] at this
@[simp] theorem ixP_1 {a : D} : ixP (a :: d :: xs) 1 = some d := ixP_nat (k := 1) rfl
@[simp] theorem ixP_2 {a b : D} : ixP (a :: b :: d :: xs) 2 = some d := ixP_nat (k := 2) rfl
@[simp] theorem gTup_0 : gTup [] = some (.val (.tuple [])) := rfl
@[simp] theorem gTup_1 {a : D} : gTup [.fz a] = some (.val (.tuple [a])) := rfl
@[simp] theorem gTup_2 {a b : D} : gTup [.fz a, .fz b] = some (.val (.tuple [a, b])) := rfl
@[simp] theorem gTup_3 {a b c : D} : gTup [.fz a, .fz b, .fz c] = some (.val (.tuple [a, b, c])) := rfl
@[simp] theorem gLst_0 : gLst [] = some (.new (.lst [])) := rfl
@[simp] theorem gLst_1 {a : D} : gLst [.fz a] = some (.new (.lst [a])) := rfl
@[simp] theorem gLst_2 {a b : D} : gLst [.fz a, .fz b] = some (.new (.lst [a, b])) := rfl
@[simp] theorem gLst_3 {a b c : D} : gLst [.fz a, .fz b, .fz c] = some (.new (.lst [a, b, c])) := rfl
@[simp] theorem gTuple_l : gTuple [.fz (.list xs)] = some (.val (.tuple xs)) := rfl
@[simp] theorem gTuple_o : gTuple [.ow (.lst xs)] = some (.val (.tuple xs)) := rfl
@[simp] theorem gTuple_t : gTuple [.fz (.tuple xs)] = some (.val (.tuple xs)) := rfl
@[simp] theorem gList_l : gList [.fz (.list xs)] = some (.new (.lst xs)) := rfl
@[simp] theorem gList_o : gList [.ow (.lst xs)] = some (.new (.lst xs)) := rfl
@[simp] theorem gList_t : gList [.fz (.tuple xs)] = some (.new (.lst xs)) := rfl
@[simp] theorem gAdd_tt : gAdd [.fz (.tuple xs), .fz (.tuple ys)] = if xs.length + ys.length ≤ lineD then some (.val (.tuple (xs ++ ys))) else none := rfl
@[simp] theorem gRng1_i : gRng1 [.fz (.int i)] = if okR i = true then some (rng 0 i) else none := rfl
@[simp] theorem okR_iff : okR i = true ↔ -(2 ^ 62) ≤ i ∧ i < 2 ^ 62 := by simp [okR]
@[simp] theorem dataAll_nil : dataAll [] = some [] := rfl
@[simp] theorem dataAll_cons {as : List Rs} : dataAll (.fz d :: as) = (dataAll as).map (d :: ·) := rfl
@[simp] theorem gAppend_1 : gAppend xs [d] = if xs.length < lineD then some (xs ++ [d], .none) else none := rfl
@[simp] theorem gInsert_2 : gInsert xs [.int i, d] = if xs.length < lineD ∧ 0 ≤ i ∧ i < 2 ^ 63 then some (xs.take i.toNat ++ [d] ++ xs.drop i.toNat, .none) else none := rfl
@[simp] theorem ixD_0 {n : Nat} : ixD n 0 = if 0 < n then some 0 else none := by
  unfold ixD
  by_cases h : 0 < n
  · rw [if_pos (by omega), if_pos (by omega), if_pos h]; rfl
  · rw [if_pos (by omega), if_neg (by omega), if_neg h]
theorem ixD_nat {n k : Nat} (h : k < n) : ixD n (k : Int) = some k := by
  unfold ixD
  rw [if_pos (by omega), if_pos (by omega)]; rfl
@[simp] theorem ixD_1 {n : Nat} : ixD (n + 2) 1 = some 1 := ixD_nat (k := 1) (by omega)
@[simp] theorem ixD_2 {n : Nat} : ixD (n + 3) 2 = some 2 := ixD_nat (k := 2) (by omega)
end
@[simp] theorem ownIx_nil : ownIx [] [] = [] := rfl
@[simp] theorem ownIx_val {d : D} {as : List AV} {x : Rs} {xs : List Rs} : ownIx (.val d :: as) (x :: xs) = ownIx as xs := rfl
@[simp] theorem ownIx_fz {i : Nat} {d : D} {as : List AV} {xs : List Rs} : ownIx (.slot i :: as) (.fz d :: xs) = ownIx as xs := rfl
@[simp] theorem ownIx_ow {i : Nat} {c : Ct} {as : List AV} {xs : List Rs} : ownIx (.slot i :: as) (.ow c :: xs) = i :: ownIx as xs := rfl
@[simp] theorem backSl_ow {b : Bool} {c : Ct} : backSl b (.ow c) = .own b c := rfl
@[simp] theorem backSl_fz {b : Bool} {d : D} : backSl b (.fz d) = .frz b d := rfl
@[simp] theorem toSl_fz {d : D} : toSl (.fz d) = .frz false d := rfl
@[simp] theorem toSl_ow {c : Ct} : toSl (.ow c) = .own true c := rfl
@[simp] theorem outs_nil {k : Nat} {r : Ro} : outs [] k r = [] := rfl
@[simp] theorem outs_fz {d : D} {xs : List Rs} {k : Nat} {r : Ro} : outs (.fz d :: xs) k r = .fz d :: outs xs (k + 1) r := rfl
def outP (c : Ct) : Option Sl → Rs
  | some (.own _ c') => .ow c'
  | some (.frz _ d) => .fz d
  | _ => .ow c
@[simp] theorem outP_own {c c' : Ct} {b : Bool} : outP c (some (.own b c')) = .ow c' := rfl
@[simp] theorem outP_frz {c : Ct} {d : D} {b : Bool} : outP c (some (.frz b d)) = .fz d := rfl
@[simp] theorem outs_ow {c : Ct} {xs : List Rs} {k : Nat} {r : Ro} : outs (.ow c :: xs) k r = outP c r[k]? :: outs xs (k + 1) r := rfl
def alB (i : Nat) : Sl → Bool
  | .al j _ => j != i
  | _ => true
@[simp] theorem noAl_nil {i : Nat} : noAl [] i = true := rfl
@[simp] theorem noAl_cons {i : Nat} {x : Sl} {r : Ro} : noAl (x :: r) i = (alB i x && noAl r i) := by
  unfold noAl
  rw [List.all_cons]
  cases x <;> rfl
@[simp] theorem alB_frz {i : Nat} {b : Bool} {d : D} : alB i (.frz b d) = true := rfl
@[simp] theorem alB_own {i : Nat} {b : Bool} {c : Ct} : alB i (.own b c) = true := rfl
@[simp] theorem alB_non {i : Nat} : alB i .non = true := rfl
@[simp] theorem alB_al {i j k : Nat} : alB i (.al j k) = (j != i) := rfl
/-- a slot that a loop may store to -/
structure Fr (x : Sl) : Prop where
  pin : putSl.pinnedB x = false
  al : ∀ i, alB i x = true
theorem Fr.non : Fr .non := ⟨rfl, fun _ => rfl⟩
theorem Fr.frz {d : D} : Fr (.frz false d) := ⟨rfl, fun _ => rfl⟩
theorem Fr.lst {c : Ct} : Fr (.own false c) := ⟨rfl, fun _ => rfl⟩
end DL
end

section
namespace DL
open PySem
section
variable {X : Exn → Ro → Prop} {r : Ro}
/-- the walk of a comprehension -/
def lcK (vs : List Nat) (set : D → S) (t : M Bool) (e : M RV) (ds acc : List D) (r : Ro) (k : List D → Ro → Prop) : Prop := ∃ zs r', lcM vs set t e ds acc r = some (zs, r') ∧ k zs r'
def wipeP (r : Ro) (k : Ro → Prop) : List Nat → Prop
  | [] => k r
  | v :: vs => wipeP r (fun r' => setP r' v .non k) vs
@[simp, simp ↓] theorem wipeP_nil {k : Ro → Prop} : wipeP r k [] ↔ k r := Iff.rfl
@[simp, simp ↓] theorem wipeP_cons {v : Nat} {vs : List Nat} {k : Ro → Prop} : wipeP r k (v :: vs) ↔ wipeP r (fun r' => setP r' v .non k) vs := Iff.rfl
theorem wipeP_eq {vs : List Nat} : ∀ {k : Ro → Prop}, wipeP r k vs ↔ k (wipeR r vs) := by
  induction vs with
  | nil => intro k; exact Iff.rfl
  | cons v vs ih => intro k; exact ih
@[simp, simp ↓] theorem E_mLc {vs : List Nat} {mi : M (List D)} {set : D → S} {t : M Bool} {e : M RV} {Q : RV → Ro → Prop} : E X (mLc vs mi set t e) r Q ↔ E X mi r fun ds r' => anyPin r' vs = false ∧ wipeP r' (fun r2 => lcK vs set t e ds [] r2 fun zs r3 => Q (.new (.lst zs)) r3) vs := by
  refine Iff.trans (E_bind (m := mi)) ?_
  simp only [wipeP_eq]
  constructor
  · intro h
    refine h.mono fun ds r' h => ?_
    obtain ⟨v, r2, e1, q⟩ := h
    cases h1 : anyPin r' vs with
    | true => simp [h1] at e1
    | false =>
      simp only [h1, Bool.false_eq_true, if_false] at e1
      obtain ⟨⟨a, b⟩, e2, e3⟩ := Option.map_eq_some_iff.mp e1
      cases e3
      exact ⟨rfl, a, b, e2, q⟩
  · intro h
    refine h.mono fun ds r' ⟨h1, a, b, e2, q⟩ => ?_
    exact ⟨.ok (.new (.lst a)), b, by simp only [h1, e2]; rfl, q⟩
/-- the item behind the test -/
def itP (t : M Bool) (e : M RV) (k : Option D → Ro → Prop) : SO → Ro → Prop
  | .nx, r => E (fun _ _ => False) t r fun b r2 => ifP b (E (fun _ _ => False) (mFz e) r2 fun x r3 => k (some x) r3) (k none r2)
  | _, _ => False
@[simp, simp ↓] theorem itP_nx {t : M Bool} {e : M RV} {k : Option D → Ro → Prop} : itP t e k .nx r ↔ E (fun _ _ => False) t r fun b r2 => ifP b (E (fun _ _ => False) (mFz e) r2 fun x r3 => k (some x) r3) (k none r2) := Iff.rfl
/-- a comprehension by what each item gives -/
theorem lcK_of {vs : List Nat} {set : D → S} {t : M Bool} {e : M RV} (f : D → Option D) : ∀ {ds acc : List D} {k : List D → Ro → Prop},
    (∀ d ∈ ds, W (set d) r (itP t e fun x r3 => x = f d ∧ wipeP r3 (fun r4 => r4 = r) vs)) → acc.length + ds.length ≤ lineD → k (acc ++ ds.filterMap f) r → lcK vs set t e ds acc r k := by
  intro ds
  induction ds with
  | nil => intro acc k _ _ hk; exact ⟨_, _, rfl, by simpa using hk⟩
  | cons d ds ih =>
    intro acc k hs hl hk
    obtain ⟨o, r1, e1, h⟩ := hs d (List.mem_cons_self ..)
    have rest := fun d' h' => hs d' (List.mem_cons_of_mem _ h')
    cases o with
    | nx =>
      obtain ⟨b, r2, e2, h⟩ := h
      cases b with
      | exc x => exact h.elim
      | ok b =>
        cases b with
        | true =>
          have h := ifP_true.mp h
          obtain ⟨x, r3, e3, h⟩ := h
          cases x with
          | exc x => exact h.elim
          | ok x =>
            obtain ⟨h1, h2⟩ := h
            rw [wipeP_eq] at h2
            have : (acc ++ [x]).length + ds.length ≤ lineD := by simp at hl ⊢; omega
            obtain ⟨zs, r', e4, q⟩ := ih (acc := acc ++ [x]) rest this (by simpa [List.filterMap_cons, ← h1] using hk)
            refine ⟨zs, r', ?_, q⟩
            unfold lcM
            simp only [e1, e2, e3, h2]
            rw [if_pos (by simp at hl; omega)]
            exact e4
        | false =>
          have h := ifP_false.mp h
          obtain ⟨h1, h2⟩ := h
          rw [wipeP_eq] at h2
          obtain ⟨zs, r', e4, q⟩ := ih (acc := acc) rest (by simp at hl ⊢; omega) (by simpa [List.filterMap_cons, ← h1] using hk)
          refine ⟨zs, r', ?_, q⟩
          unfold lcM
          simp only [e1, e2, h2]
          exact e4
    | _ => exact h.elim
/-- a comprehension whose items change the slots, by an invariant: k items done, these the results -/
theorem lcK_inv {vs : List Nat} {set : D → S} {t : M Bool} {e : M RV} (I : Nat → List D → Ro → Prop) : ∀ {ds acc : List D} {n : Nat} {r : Ro} {k : List D → Ro → Prop}, I n acc r → acc.length + ds.length ≤ lineD →
    (∀ j d acc r, ds[j]? = some d → I (n + j) acc r → W (set d) r (itP t e fun x r3 => wipeP r3 (fun r4 => I (n + j + 1) (acc ++ x.toList) r4) vs)) → (∀ zs r', I (n + ds.length) zs r' → k zs r') → lcK vs set t e ds acc r k := by
  intro ds
  induction ds with
  | nil => intro acc n r k h _ _ hk; exact ⟨_, _, rfl, hk _ _ h⟩
  | cons d ds ih =>
    intro acc n r k hI hl hs hk
    obtain ⟨o, r1, e1, h⟩ := hs 0 d acc r rfl hI
    have rest : ∀ j d' acc r, ds[j]? = some d' → I (n + 1 + j) acc r → W (set d') r (itP t e fun x r3 => wipeP r3 (fun r4 => I (n + 1 + j + 1) (acc ++ x.toList) r4) vs) := fun j d' acc r e h => by
      have := hs (j + 1) d' acc r e (by rw [show n + (j + 1) = n + 1 + j by omega]; exact h)
      rw [show n + (j + 1) = n + 1 + j by omega] at this
      exact this
    have hk' : ∀ zs r', I (n + 1 + ds.length) zs r' → k zs r' := fun zs r' h => hk zs r' (by rw [show n + (d :: ds).length = n + 1 + ds.length by simp; omega]; exact h)
    cases o with
    | nx =>
      obtain ⟨b, r2, e2, h⟩ := h
      cases b with
      | exc x => exact h.elim
      | ok b =>
        cases b with
        | true =>
          have h := ifP_true.mp h
          obtain ⟨x, r3, e3, h⟩ := h
          cases x with
          | exc x => exact h.elim
          | ok x =>
            have h : wipeP r3 (fun r4 => I (n + 0 + 1) (acc ++ [x]) r4) vs := h
            rw [wipeP_eq] at h
            obtain ⟨zs, r', e4, q⟩ := ih (acc := acc ++ [x]) h (by simp at hl ⊢; omega) rest hk'
            refine ⟨zs, r', ?_, q⟩
            unfold lcM
            simp only [e1, e2, e3]
            rw [if_pos (by simp at hl; omega)]
            exact e4
        | false =>
          have h := ifP_false.mp h
          have h : wipeP r2 (fun r4 => I (n + 0 + 1) (acc ++ []) r4) vs := h
          rw [wipeP_eq, List.append_nil] at h
          obtain ⟨zs, r', e4, q⟩ := ih (acc := acc) h (by simp at hl ⊢; omega) rest hk'
          refine ⟨zs, r', ?_, q⟩
          unfold lcM
          simp only [e1, e2]
          exact e4
    | _ => exact h.elim
theorem lcK_map {vs : List Nat} {set : D → S} {t : M Bool} {e : M RV} (f : D → D) {ds : List D} {k : List D → Ro → Prop}
    (h : ∀ d ∈ ds, W (set d) r (itP t e fun x r3 => x = some (f d) ∧ wipeP r3 (fun r4 => r4 = r) vs)) (hl : ds.length ≤ lineD) (hk : k (ds.map f) r) : lcK vs set t e ds [] r k :=
  lcK_of (fun d => some (f d)) h (by simpa using hl) (by simpa using hk)
/-- new lists -/
def lcLK (vs : List Nat) (set : D → S) (t : M Bool) (e : M RV) (ds : List D) (acc : List (List D)) (r : Ro) (k : List (List D) → Ro → Prop) : Prop := ∃ zs r', lcL vs set t e ds acc r = some (zs, r') ∧ k zs r'
@[simp, simp ↓] theorem E_mLcL {vs : List Nat} {mi : M (List D)} {set : D → S} {t : M Bool} {e : M RV} {Q : RV → Ro → Prop} : E X (mLcL vs mi set t e) r Q ↔ E X mi r fun ds r' => anyPin r' vs = false ∧ wipeP r' (fun r2 => lcLK vs set t e ds [] r2 fun zs r3 => Q (.new (.ll zs)) r3) vs := by
  refine Iff.trans (E_bind (m := mi)) ?_
  simp only [wipeP_eq]
  constructor
  · intro h
    refine h.mono fun ds r' h => ?_
    obtain ⟨v, r2, e1, q⟩ := h
    cases h1 : anyPin r' vs with
    | true => simp [h1] at e1
    | false =>
      simp only [h1, Bool.false_eq_true, if_false] at e1
      obtain ⟨⟨a, b⟩, e2, e3⟩ := Option.map_eq_some_iff.mp e1
      cases e3
      exact ⟨rfl, a, b, e2, q⟩
  · intro h
    refine h.mono fun ds r' ⟨h1, a, b, e2, q⟩ => ?_
    exact ⟨.ok (.new (.ll a)), b, by simp only [h1, e2]; rfl, q⟩
def itLP (t : M Bool) (e : M RV) (k : RV → Ro → Prop) : SO → Ro → Prop
  | .nx, r => E (fun _ _ => False) t r fun b r2 => ifP b (E (fun _ _ => False) e r2 k) False
  | _, _ => False
@[simp, simp ↓] theorem itLP_nx {t : M Bool} {e : M RV} {k : RV → Ro → Prop} : itLP t e k .nx r ↔ E (fun _ _ => False) t r fun b r2 => ifP b (E (fun _ _ => False) e r2 k) False := Iff.rfl
theorem lcLK_map {vs : List Nat} {set : D → S} {t : M Bool} {e : M RV} (f : D → List D) : ∀ {ds : List D} {acc : List (List D)} {k : List (List D) → Ro → Prop},
    (∀ d ∈ ds, W (set d) r (itLP t e fun x r3 => x = .new (.lst (f d)) ∧ wipeP r3 (fun r4 => r4 = r) vs)) → acc.length + ds.length ≤ lineD → k (acc ++ ds.map f) r → lcLK vs set t e ds acc r k := by
  intro ds
  induction ds with
  | nil => intro acc k _ _ hk; exact ⟨_, _, rfl, by simpa using hk⟩
  | cons d ds ih =>
    intro acc k hs hl hk
    obtain ⟨o, r1, e1, h⟩ := hs d (List.mem_cons_self ..)
    have rest := fun d' h' => hs d' (List.mem_cons_of_mem _ h')
    cases o with
    | nx =>
      obtain ⟨b, r2, e2, h⟩ := h
      cases b with
      | exc x => exact h.elim
      | ok b =>
        cases b with
        | true =>
          have h := ifP_true.mp h
          obtain ⟨x, r3, e3, h⟩ := h
          cases x with
          | exc x => exact h.elim
          | ok x =>
            obtain ⟨rfl, h2⟩ := h
            rw [wipeP_eq] at h2
            have : (acc ++ [f d]).length + ds.length ≤ lineD := by simp at hl ⊢; omega
            obtain ⟨zs, r', e4, q⟩ := ih (acc := acc ++ [f d]) rest this (by simpa using hk)
            refine ⟨zs, r', ?_, q⟩
            unfold lcL
            simp only [e1, e2, e3, h2]
            rw [if_pos (by simp at hl; omega)]
            exact e4
        | false => exact (ifP_false.mp h).elim
    | _ => exact h.elim
@[simp, simp ↓] theorem E_mBd_none {Q : Option Int → Ro → Prop} : E X (mBd none) r Q ↔ Q none r := E_ret
@[simp, simp ↓] theorem E_mBd_some {m : M AV} {Q : Option Int → Ro → Prop} : E X (mBd (some m)) r Q ↔ E X m r fun a r1 => optP (((look2 r1 a).bind Rs.data).bind intO) fun n => Q (some n) r1 := by
  refine Iff.trans (E_bind (m := m)) ?_
  constructor
  · intro h
    refine h.mono fun a r' h => ?_
    obtain ⟨v, r2, e1, q⟩ := h
    cases h1 : (look2 r' a).bind Rs.data with
    | none => simp only [h1] at e1; cases e1
    | some d => cases d with
      | int n => simp only [h1] at e1; cases e1; exact ⟨n, rfl, q⟩
      | _ => simp only [h1] at e1; cases e1
  · intro h
    refine h.mono fun a r' ⟨n, h1, q⟩ => ?_
    cases h2 : (look2 r' a).bind Rs.data with
    | none => rw [h2] at h1; cases h1
    | some d => cases d with
      | int n => rw [h2] at h1; cases h1; exact ⟨.ok (some n), r', by simp only [h2], q⟩
      | _ => rw [h2] at h1; cases h1
theorem E_fun {α β : Type} {m : M α} {f : α → M β} {g : α → Ro → Option β} (hf : ∀ a r, f a r = (g a r).map fun v => (.ok v, r)) {Q : β → Ro → Prop} : E X (m.bind f) r Q ↔ E X m r fun a r1 => optP (g a r1) fun v => Q v r1 := by
  refine Iff.trans E_bind ?_
  constructor
  · intro h
    refine h.mono fun a r' ⟨v, r2, e1, q⟩ => ?_
    rw [hf] at e1
    cases h1 : g a r' with
    | none => rw [h1] at e1; cases e1
    | some b => rw [h1] at e1; cases e1; exact ⟨b, rfl, q⟩
  · intro h
    refine h.mono fun a r' ⟨v, e1, q⟩ => ?_
    exact ⟨.ok v, r', by rw [hf, e1]; rfl, q⟩
@[simp, simp ↓] theorem E_mSl {m : M AV} {lo hi : Option (M AV)} {Q : RV → Ro → Prop} : E X (mSl m lo hi) r Q ↔ E X m r fun a r1 => E X (mBd lo) r1 fun l r2 => E X (mBd hi) r2 fun h r3 => optP ((look2 r3 a).bind (gCut l h)) fun v => Q v r3 := by
  refine Iff.trans (E_bind (m := m)) ?_
  constructor <;> intro h <;> refine h.mono fun a r1 h => ?_
  · refine (E_bind (m := mBd lo).mp h).mono fun l r2 h => ?_
    exact (E_fun (m := mBd hi) fun _ _ => rfl).mp h
  · refine E_bind (m := mBd lo).mpr (h.mono fun l r2 h => ?_)
    exact (E_fun (m := mBd hi) fun _ _ => rfl).mpr h
@[simp] theorem gCut_t {lo hi : Option Int} {xs : List D} : gCut lo hi (.fz (.tuple xs)) = some (.val (.tuple (cutD xs lo hi))) := rfl
@[simp] theorem gCut_l {lo hi : Option Int} {xs : List D} : gCut lo hi (.fz (.list xs)) = some (.new (.lst (cutD xs lo hi))) := rfl
@[simp] theorem gCut_o {lo hi : Option Int} {xs : List D} : gCut lo hi (.ow (.lst xs)) = some (.new (.lst (cutD xs lo hi))) := rfl
theorem scrL_map (ns : List Int) : scrL (ns.map fun n => (PyData.int n, PyData.none)) = some ns := by
  induction ns with
  | nil => rfl
  | cons n ns ih => simp [scrL, ih]
theorem scrOf_map (ns : List Int) : scrOf ((PyData.none, PyData.none) :: ns.map fun n => (PyData.int n, PyData.none)) = some ns := scrL_map ns
@[simp] theorem gCut_scr {lo hi : Option Int} {ns : List Int} : gCut lo hi (.fz (.dict ((.none, .none) :: ns.map fun n => (PyData.int n, PyData.none)))) = some (.new (.lst ((cutD ns lo hi).map .int))) := by
  show (scrOf ((PyData.none, PyData.none) :: ns.map fun n => (PyData.int n, PyData.none))).map _ = _
  rw [scrOf_map]
  rfl
@[simp, simp ↓] theorem E_mIsi {ts : List Ty} {m : M AV} {Q : RV → Ro → Prop} : E X (mIsi ts m) r Q ↔ E X m r fun a r1 => optP ((look2 r1 a).bind Rs.data) fun d => optP (anyTy ts d) fun b => Q (.val (.bool b)) r1 := by
  refine Iff.trans (E_fun (m := m) (g := fun a r => ((look2 r a).bind Rs.data).bind fun d => (anyTy ts d).map fun b => .val (.bool b)) fun a r => ?_) ?_
  · cases (look2 r a).bind Rs.data with
    | none => rfl
    | some d => cases h : anyTy ts d <;> simp [h]
  · constructor
    · exact fun h => h.mono fun a r1 ⟨v, e, q⟩ => by
        obtain ⟨d, e1, e2⟩ := Option.bind_eq_some_iff.mp e
        obtain ⟨b, e3, rfl⟩ := Option.map_eq_some_iff.mp e2
        exact ⟨d, e1, b, e3, q⟩
    · exact fun h => h.mono fun a r1 ⟨d, e1, b, e3, q⟩ => ⟨.val (.bool b), by rw [e1]; simp [e3], q⟩
def idxP (ds : List D) (o : Option D) : Option RV := match intsD ds, o with
  | some ns, some (.int y) => (ns.findIdx? (· == y)).map fun k => .val (.int (k : Nat))
  | _, _ => none
@[simp, simp ↓] theorem E_mIndex {m : M RV} {me : M AV} {Q : RV → Ro → Prop} : E X (mIndex m me) r Q ↔ E X m r fun v r1 => optP v.data fun d => optP (rowOf d) fun ds => E X me r1 fun b r2 => optP (idxP ds ((look2 r2 b).bind Rs.data)) fun v => Q v r2 := by
  refine Iff.trans (E_bind (m := mFz m)) (Iff.trans E_mFz ?_)
  have key : ∀ d r1, E X (match rowOf d with | none => M.of none | some ds => me.bind (fIndex ds)) r1 Q ↔ optP (rowOf d) fun ds => E X me r1 fun b r2 => optP (idxP ds ((look2 r2 b).bind Rs.data)) fun v => Q v r2 := by
    intro d r1
    cases rowOf d with
    | none => simp
    | some ds =>
      rw [optP_some]
      refine E_fun (m := me) fun a r => ?_
      unfold fIndex idxP
      cases intsD ds with
      | none => rfl
      | some ns =>
        cases (look2 r a).bind Rs.data with
        | none => rfl
        | some d => cases d with
          | int y => cases h : ns.findIdx? (· == y) <;> simp [h]
          | _ => rfl
  constructor <;> exact fun h => h.mono fun v r1 ⟨d, e, q⟩ => ⟨d, e, by first | exact (key d r1).mp q | exact (key d r1).mpr q⟩
theorem valD_put {κ : Type} [DecidableEq κ] {kvs : List (κ × D)} {k k' : κ} {v : D} : valD (putD kvs k v) k' = if k' = k then some v else valD kvs k' := by
  unfold putD
  split
  · rename_i h
    obtain ⟨⟨k0, v0⟩, hm, h0⟩ := List.any_eq_true.mp h
    unfold valD
    clear h
    induction kvs with
    | nil => cases hm
    | cons a kvs ih =>
      obtain ⟨ka, va⟩ := a
      rw [List.map_cons]
      by_cases hka : ka = k
      · subst hka
        by_cases hk' : k' = ka
        · subst hk'; simp
        · have hk2 : ¬ ka = k' := fun e => hk' e.symm
          simp only [if_true, List.find?_cons, hk2, decide_false, hk', if_false]
          clear ih hm
          induction kvs with
          | nil => rfl
          | cons b kvs ih2 =>
            obtain ⟨kb, vb⟩ := b
            rw [List.map_cons]
            by_cases hkb : kb = ka
            · subst hkb
              simp only [if_true, List.find?_cons, hk2, decide_false]
              exact ih2
            · simp only [hkb, if_false, List.find?_cons]
              by_cases hkb' : kb = k'
              · simp [hkb']
              · simp only [hkb', decide_false]; exact ih2
      · rcases List.mem_cons.mp hm with e | hm
        · cases e; simp at h0; exact absurd h0 hka
        · have := ih hm
          simp only [hka, if_false, List.find?_cons]
          by_cases hk' : ka = k'
          · have : ¬ k' = k := fun e => hka (hk'.trans e)
            simp [hk', this]
          · simp only [hk', decide_false]; exact this
  · rename_i h
    unfold valD
    rw [List.find?_append]
    by_cases hk : k' = k
    · subst hk
      have : kvs.find? (fun kv => decide (kv.1 = k')) = none := List.find?_eq_none.mpr fun x hx hd => h (List.any_eq_true.mpr ⟨x, hx, hd⟩)
      rw [this]
      simp
    · have : ¬ k = k' := fun e => hk e.symm
      cases kvs.find? (fun kv => decide (kv.1 = k')) <;> simp [hk, this]
theorem putD_len {κ : Type} [DecidableEq κ] {kvs : List (κ × D)} {k : κ} {v : D} : (putD kvs k v).length ≤ kvs.length + 1 := by
  unfold putD
  split <;> simp
theorem sIxD_nat {n d k : Nat} : sIxD n d (some (k : Int)) = min k n := by
  unfold sIxD
  dsimp only
  rw [if_neg (by omega)]
  simp
theorem cutD_take {α : Type} {xs : List α} {n : Nat} : cutD xs none (some (n : Int)) = xs.take n := by
  unfold cutD
  rw [sIxD_nat]
  show List.take (min n xs.length - 0) (List.drop 0 xs) = _
  rw [Nat.sub_zero, List.drop_zero]
  by_cases h : n ≤ xs.length
  · rw [Nat.min_eq_left h]
  · rw [Nat.min_eq_right (by omega), List.take_of_length_le (by omega), List.take_of_length_le (by omega)]
theorem cutD_drop {α : Type} {xs : List α} {n : Nat} : cutD xs (some (n : Int)) none = xs.drop n := by
  unfold cutD
  rw [sIxD_nat]
  show List.take (xs.length - _) _ = _
  by_cases h : n ≤ xs.length
  · rw [Nat.min_eq_left h, List.take_of_length_le (by simp)]
  · rw [Nat.min_eq_right (by omega), List.drop_eq_nil_of_le (by omega), List.drop_eq_nil_of_le (by omega)]; simp
@[simp] theorem cutD_take1 {α : Type} {xs : List α} : cutD xs none (some 1) = xs.take 1 := cutD_take (n := 1)
@[simp] theorem cutD_drop1 {α : Type} {xs : List α} : cutD xs (some 1) none = xs.drop 1 := cutD_drop (n := 1)
@[simp] theorem intsD_map {ns : List Int} : intsD (ns.map .int) = some ns := by
  induction ns with
  | nil => rfl
  | cons n ns ih => simp [intsD, ih]
@[simp] theorem idxP_i {ns : List Int} {y : Int} : idxP (ns.map .int) (some (.int y)) = (ns.findIdx? (· == y)).map fun k => .val (.int (k : Nat)) := by
  unfold idxP
  rw [intsD_map]
end
end DL
end

section
namespace DL
open PySem
section
variable {X : Exn → Ro → Prop} {r : Ro}
end
section
variable {xs ys ds : List D} {d e : D} {i : Int}
@[simp] theorem gAdd_ll : gAdd [.fz (.list xs), .fz (.list ys)] = if xs.length + ys.length ≤ lineD then some (.new (.lst (xs ++ ys))) else none := rfl
@[simp] theorem gInS_l {neg : Bool} : gInS neg [.fz d, .fz (.list ys)] = if okE d && ys.all okE then some (.val (.bool (neg ^^ ys.any fun y => PyData.eqv y d))) else none := rfl
@[simp] theorem gInS_t {neg : Bool} : gInS neg [.fz d, .fz (.tuple ys)] = if okE d && ys.all okE then some (.val (.bool (neg ^^ ys.any fun y => PyData.eqv y d))) else none := rfl
@[simp] theorem gInS_o {neg : Bool} : gInS neg [.fz d, .ow (.lst ys)] = if okE d && ys.all okE then some (.val (.bool (neg ^^ ys.any fun y => PyData.eqv y d))) else none := rfl
@[simp] theorem gMinL_l : gMinL [.fz (.list (d :: ds))] = if mmOk (d :: ds) then some (.val (W.minD d ds)) else none := rfl
@[simp] theorem gMinL_t : gMinL [.fz (.tuple (d :: ds))] = if mmOk (d :: ds) then some (.val (W.minD d ds)) else none := rfl
@[simp] theorem gMinL_o : gMinL [.ow (.lst (d :: ds))] = if mmOk (d :: ds) then some (.val (W.minD d ds)) else none := rfl
@[simp] theorem gInt_i : gInt [.fz (.int i)] = some (.val (.int i)) := rfl
@[simp] theorem gInt_b {b : Bool} : gInt [.fz (.bool b)] = some (.val (.int (if b then 1 else 0))) := rfl
end
/-- data's looks -/
@[simp] theorem okE_i {i : Int} : okE (.int i) = true := by unfold okE PyData.canLay0 PyData.depth; rfl
@[simp] theorem okE_b {i : Bool} : okE (.bool i) = true := by unfold okE PyData.canLay0 PyData.depth; rfl
@[simp] theorem okE_n : okE .none = true := by unfold okE PyData.canLay0 PyData.depth; rfl
theorem lay_ints (ns : List Int) : PyData.canLayAll0 (ns.map .int) = true := by
  induction ns with
  | nil => simp [PyData.canLayAll0]
  | cons n ns ih => simp [PyData.canLayAll0, PyData.canLay0, ih]
theorem dep_ints (ns : List Int) : PyData.depthAll (ns.map .int) = 0 := W.depth_ints ns
@[simp] theorem okE_ti {ns : List Int} : okE (.tuple (ns.map .int)) = true := by
  unfold okE PyData.canLay0 PyData.depth
  rw [lay_ints, dep_ints]
  rfl
@[simp] theorem okE_li {ns : List Int} : okE (.list (ns.map .int)) = true := by
  unfold okE PyData.canLay0 PyData.depth
  rw [lay_ints, dep_ints]
  rfl
@[simp] theorem all_okE_ints {ns : List Int} : (ns.map PyData.int).all okE = true := by
  rw [List.all_map]
  exact List.all_eq_true.mpr fun n _ => okE_i
theorem eqv_ints : ∀ (ns ms : List Int), PyData.eqvAll (ns.map .int) (ms.map .int) = decide (ns = ms)
  | [], [] => by simp [PyData.eqvAll]
  | [], _ :: _ => by simp [PyData.eqvAll]
  | _ :: _, [] => by simp [PyData.eqvAll]
  | n :: ns, m :: ms => by
    simp only [List.map_cons, PyData.eqvAll, eqv_ints ns ms, eqv_ii]
    by_cases h : n = m <;> simp [h]
@[simp] theorem eqv_ti {ns ms : List Int} : PyData.eqv (.tuple (ns.map .int)) (.tuple (ms.map .int)) = decide (ns = ms) := by
  unfold PyData.eqv
  exact eqv_ints ns ms
@[simp] theorem eqv_int2 {a b : Int} : PyData.eqv (.int a) (.int b) = decide (a = b) := by
  rw [eqv_ii]
  rfl
end DL
end

section
namespace DL
open PySem
end DL
end

section
namespace DL
open PySem
section
variable {X : Exn → Ro → Prop} {r : Ro}
end
end DL
end

section
namespace DL
open PySem
section
variable {X : Exn → Ro → Prop} {r : Ro}
end
end DL
end

section
namespace DL
open PySem
section
variable {X : Exn → Ro → Prop} {r : Ro}
end
end DL
end

section
namespace DL
open PySem
section
variable {X : Exn → Ro → Prop} {r : Ro}
@[simp] theorem boolR_b {b : Bool} : boolR (.val (.bool b)) = some b := rfl
@[simp, simp ↓] theorem E_mChain {g g' : List Rs → Option RV} {oa ob oc : M AV} {Q : RV → Ro → Prop} : E X (mChain g g' oa ob oc) r Q ↔ E X oa r fun a r1 => E X ob r1 fun b r2 => optP (looks2 r2 [a, b]) fun xs => optP (g xs) fun v => optP (boolR v) fun k => ifP k (E X oc r2 fun c r3 => optP (looks2 r3 [b, c]) fun ys => optP (g' ys) fun v => Q v r3) (Q (.val (.bool false)) r2) := by
  unfold mChain
  refine E_bind.trans ?_
  constructor
  all_goals
    intro h
    refine h.mono fun a r1 h => ?_
  · refine (E_bind.mp h).mono fun b r2 h => ?_
    obtain ⟨o, r3, e, q⟩ := h
    cases q1 : ((looks2 r2 [a, b]).bind g).bind boolR with
    | none =>
      have e' : (match ((looks2 r2 [a, b]).bind g).bind boolR with | none => none | some k => mChainT g' oc b k r2) = some (o, r3) := e
      rw [q1] at e'
      cases e'
    | some k =>
      have e : (match ((looks2 r2 [a, b]).bind g).bind boolR with | none => none | some k => mChainT g' oc b k r2) = some (o, r3) := e
      obtain ⟨z, q2, q3⟩ := Option.bind_eq_some_iff.mp q1
      obtain ⟨xs, q4, q5⟩ := Option.bind_eq_some_iff.mp q2
      refine ⟨xs, q4, z, q5, k, q3, ?_⟩
      rw [q1] at e
      have h2 : E X (mChainT g' oc b k) r2 Q := ⟨o, r3, e, q⟩
      cases k with
      | true =>
        rw [ifP_true]
        refine (E_bind.mp (show E X (oc.bind fun c => mFin g' [b, c]) r2 Q from h2)).mono fun c r3 h => ?_
        exact E_mFin.mp h
      | false => rw [ifP_false]; exact E_ret.mp h2
  · refine E_bind.mpr (h.mono fun b r2 h => ?_)
    obtain ⟨xs, q4, z, q5, k, q3, h⟩ := h
    have h2 : E X (mChainT g' oc b k) r2 Q := by
      cases k with
      | true => rw [ifP_true] at h; exact E_bind.mpr (E.mono h fun c r3 h => E_mFin.mpr h)
      | false => rw [ifP_false] at h; exact E_ret.mpr h
    obtain ⟨o, r3, e, q⟩ := h2
    refine ⟨o, r3, ?_, q⟩
    show (match ((looks2 r2 [a, b]).bind g).bind boolR with | none => none | some k => mChainT g' oc b k r2) = _
    rw [q4, Option.bind_some, q5, Option.bind_some, q3]
    exact e
end
end DL
end

section
namespace DL
open PySem
section
variable {X : Exn → Ro → Prop} {r : Ro}
def takeP (n : Nat) (r : Ro) (k : Ro → Prop) : Prop := k (r.take n)
@[simp, simp ↓] theorem takeP_0 {k : Ro → Prop} : takeP 0 r k ↔ k [] := by simp [takeP]
@[simp, simp ↓] theorem takeP_s {a : Sl} {n : Nat} {k : Ro → Prop} : takeP (n + 1) (a :: r) k ↔ takeP n r fun r' => k (a :: r') := Iff.rfl
end
end DL
end

section
namespace DL
open PySem
section
variable {r : Ro}
end
end DL
end

section
namespace DL
open PySem
section
variable {X : Exn → Ro → Prop} {r : Ro}
def llO : Sl → Option (Bool × List (List D))
  | .own b (.ll rows) => some (b, rows)
  | _ => none
@[simp] theorem llO_ll {b : Bool} {rows : List (List D)} : llO (.own b (.ll rows)) = some (b, rows) := rfl
theorem llO_eq {x : Sl} {p : Bool × List (List D)} (h : llO x = some p) : x = .own p.1 (.ll p.2) := by
  unfold llO at h
  split at h
  · cases h; rfl
  · cases h
end
end DL
end

section
namespace DL
open PySem
section
variable {X : Exn → Ro → Prop} {r : Ro}
end
end DL
end

section
namespace DL
open PySem
end DL
end

section
namespace DL
open PySem
end DL
end

section
namespace DL
open PySem
section
variable {X : Exn → Ro → Prop} {r : Ro}
abbrev noX : Exn → Ro → Prop := fun _ _ => False
def okP (v : EO RV) (k : RV → Prop) (t : Tok k := .tok) : Prop := match v with
  | .ok rv => k rv
  | .exc _ => False
@[simp, simp ↓] theorem okP_ok {rv : RV} {k : RV → Prop} : okP (.ok rv) k ↔ k rv := Iff.rfl
@[simp] theorem rowO_own {b : Bool} {ds : List D} : rowO (.own b (.lst ds)) = some ds := rfl
theorem E_fLend {f : Sem} {j k : Nat} {b : Bool} {rows : List (List D)} {ds : List D} {as : List AV} {Q : RV → Ro → Prop} : E X (fLend f j b rows k ds as) r Q ↔ optP (looks (r ++ [.own false (.lst ds)]) (.slot r.length :: as)) fun xs =>
    (ownIx (.slot r.length :: as) xs).Nodup ∧ (ownIx (.slot r.length :: as) xs).all (noAl (r ++ [.own false (.lst ds)])) = true ∧ noAl r r.length = true ∧
    callP (f xs) xs.length fun o ys => okP o fun rv => backP (r ++ [.own false (.lst ds)]) (.slot r.length :: as) xs ys fun r' => optP (r'[r.length]?.bind rowO) fun ds' => takeP r.length r' fun r'' => noAl r'' j = true ∧ setP r'' j (.own b (.ll (rows.set k ds'))) (Q rv) := by
  constructor
  · rintro ⟨o, r2, e, q⟩
    unfold fLend at e
    cases q1 : looks (r ++ [.own false (.lst ds)]) (.slot r.length :: as) with
    | none => rw [q1] at e; cases e
    | some xs =>
      rw [q1] at e
      simp only at e
      split at e
      · rename_i nd
        cases q2 : f xs with
        | none => rw [q2] at e; cases e
        | some z =>
          obtain ⟨o1, ys⟩ := z
          rw [q2] at e
          cases o1 with
          | exc x => cases e
          | ok rv =>
            simp only at e
            split at e
            · rename_i hl
              split at e
              · rename_i ds' q3
                split at e
                · rename_i hn
                  cases e
                  exact ⟨xs, rfl, nd.1, nd.2.1, nd.2.2, _, ys, q2, hl, ds', q3, hn, q⟩
                · cases e
              · cases e
            · cases e
      · cases e
  · rintro ⟨xs, q1, n1, n2, n3, o, ys, q2, hl, q⟩
    cases o with
    | exc x => exact q.elim
    | ok rv =>
      obtain ⟨ds', q3, hn, q⟩ := q
      refine ⟨.ok rv, _, ?_, q⟩
      unfold fLend
      rw [q1]
      simp only
      rw [if_pos ⟨n1, n2, n3⟩, q2]
      simp only
      rw [if_pos hl, q3]
      simp only
      rw [if_pos hn]
theorem E_fCallIx {f : Sem} {j : Nat} {ms : List (M AV)} {a : AV} {Q : RV → Ro → Prop} : E X (fCallIx f j ms a) r Q ↔ optP (r[j]?.bind llO) fun p => optP (((look2 r a).bind Rs.data).bind intO) fun n => optP (ixD p.2.length n) fun k => optP p.2[k]? fun ds => setP r j .non fun r' => E noX (oL ms) r' fun as r2 => E X (fLend f j p.1 p.2 k ds as) r2 Q := by
  constructor
  · rintro ⟨o, r2, e, q⟩
    unfold fCallIx at e
    split at e
    · rename_i b rows n q1 q2
      cases q4 : ixD rows.length n with
      | none => rw [q4] at e; cases e
      | some k =>
        rw [q4] at e
        simp only [Option.bind_some] at e
        cases q7 : rows[k]? with
        | none => rw [q7] at e; cases e
        | some ds =>
          rw [q7] at e
          simp only [Option.bind_some] at e
          refine ⟨(b, rows), by rw [q1]; rfl, n, by rw [q2]; rfl, k, q4, ds, q7, ?_⟩
          show E noX (oL ms) (r.set j .non) _
          cases q8 : oL ms (r.set j .non) with
          | none => rw [q8] at e; cases e
          | some z =>
            obtain ⟨o3, r4⟩ := z
            rw [q8] at e
            cases o3 with
            | exc x => cases e
            | ok as => exact ⟨_, _, q8, o, r2, e, q⟩
    · cases e
  · rintro ⟨p, h1, n, h2, k, h3, ds, h4, o3, r4, q8, q⟩
    obtain ⟨x, q1, q2⟩ := Option.bind_eq_some_iff.mp h1
    obtain ⟨y, q3, q4⟩ := Option.bind_eq_some_iff.mp h2
    cases o3 with
    | exc x => exact q.elim
    | ok as =>
      obtain ⟨o, r2, e, q⟩ := q
      refine ⟨o, r2, ?_, q⟩
      unfold fCallIx
      have q5 : y = .int n := by
        unfold intO at q4
        split at q4
        · cases q4; rfl
        · cases q4
      rw [q1, llO_eq q2, q3, q5]
      simp only [h3, h4, Option.bind_some]
      rw [q8]
      exact e
@[simp, simp ↓] theorem E_mCallIx {f : Sem} {j : Nat} {mi : M AV} {ms : List (M AV)} {Q : RV → Ro → Prop} : E X (mCallIx f j mi ms) r Q ↔ optP (r[j]?.bind llO) fun _ => E X mi r fun a r1 => optP (r1[j]?.bind llO) fun p => optP (((look2 r1 a).bind Rs.data).bind intO) fun n => optP (ixD p.2.length n) fun k => optP p.2[k]? fun ds => setP r1 j .non fun r' => E noX (oL ms) r' fun as r2 =>
    optP (looks (r2 ++ [.own false (.lst ds)]) (.slot r2.length :: as)) fun xs =>
    (ownIx (.slot r2.length :: as) xs).Nodup ∧ (ownIx (.slot r2.length :: as) xs).all (noAl (r2 ++ [.own false (.lst ds)])) = true ∧ noAl r2 r2.length = true ∧
    callP (f xs) xs.length fun o ys => okP o fun rv => backP (r2 ++ [.own false (.lst ds)]) (.slot r2.length :: as) xs ys fun r' => optP (r'[r2.length]?.bind rowO) fun ds' => takeP r2.length r' fun r'' => noAl r'' j = true ∧ setP r'' j (.own p.1 (.ll (p.2.set k ds'))) (Q rv) := by
  have key : ∀ a r1, E X (fCallIx f j ms a) r1 Q ↔ _ := fun a r1 => E_fCallIx
  constructor
  · rintro ⟨o, r2, e, q⟩
    unfold mCallIx at e
    split at e
    · rename_i b rows q1
      have h : E X (mi.bind (fCallIx f j ms)) r Q := ⟨o, r2, e, q⟩
      refine ⟨(b, rows), by rw [q1]; rfl, ?_⟩
      refine (E_bind.mp h).mono fun a r2 h => ?_
      obtain ⟨p, h1, n, h2, k, h3, ds, h4, h⟩ := E_fCallIx.mp h
      exact ⟨p, h1, n, h2, k, h3, ds, h4, E.mono h fun as r4 h => E_fLend.mp h⟩
    · cases e
  · rintro ⟨p, h1, h⟩
    obtain ⟨x, q1, q2⟩ := Option.bind_eq_some_iff.mp h1
    have h : E X (mi.bind (fCallIx f j ms)) r Q := E_bind.mpr (E.mono h fun a r2 h => by
      obtain ⟨p, h1, n, h2, k, h3, ds, h4, h⟩ := h
      exact E_fCallIx.mpr ⟨p, h1, n, h2, k, h3, ds, h4, E.mono h fun as r4 h => E_fLend.mpr h⟩)
    obtain ⟨o, r2, e, q⟩ := h
    refine ⟨o, r2, ?_, q⟩
    unfold mCallIx
    rw [q1, llO_eq q2]
    exact e
end
end DL
end

section
namespace DL
open PySem
section
variable {X : Exn → Ro → Prop} {r : Ro}
theorem E_fIndexO {i : Nat} {b : AV} {Q : RV → Ro → Prop} : E X (fIndexO i b) r Q ↔ optP (listAt r i) fun ds => optP (idxP ds ((look2 r b).bind Rs.data)) fun v => Q v r := by
  constructor
  · rintro ⟨o, r2, e, q⟩
    unfold fIndexO at e
    split at e
    · rename_i ns y h1 h2
      obtain ⟨ds, h3, h4⟩ := Option.bind_eq_some_iff.mp h1
      cases hk : ns.findIdx? (· == y) with
      | none => rw [hk] at e; cases e
      | some k =>
        rw [hk] at e
        cases e
        refine ⟨ds, h3, .val (.int (k : Nat)), ?_, q⟩
        unfold idxP
        rw [h4, h2]
        simp only
        rw [hk]
        rfl
    · cases e
  · rintro ⟨ds, h3, v, h4, q⟩
    refine ⟨.ok v, r, ?_, q⟩
    unfold idxP at h4
    split at h4
    · rename_i ns y h1 h2
      unfold fIndexO
      rw [h3]
      simp only [Option.bind_some]
      rw [h1, h2]
      simp only
      cases hk : ns.findIdx? (· == y) with
      | none => rw [hk] at h4; cases h4
      | some k => rw [hk] at h4; cases h4; rfl
    · cases h4
@[simp, simp ↓] theorem E_mIndexO {i : Nat} {me : M AV} {Q : RV → Ro → Prop} : E X (mIndexO i me) r Q ↔ optP (listAt r i) fun _ => E X me r fun b r2 => optP (listAt r2 i) fun ds => optP (idxP ds ((look2 r2 b).bind Rs.data)) fun v => Q v r2 := by
  constructor
  · rintro ⟨o, r2, e, q⟩
    unfold mIndexO at e
    split at e
    · cases e
    · rename_i ds q1
      have h : E X (me.bind (fIndexO i)) r Q := ⟨o, r2, e, q⟩
      exact ⟨ds, q1, (E_bind.mp h).mono fun b r2 h => E_fIndexO.mp h⟩
  · rintro ⟨ds, q1, h⟩
    have h : E X (me.bind (fIndexO i)) r Q := E_bind.mpr (E.mono h fun b r2 h => E_fIndexO.mpr h)
    obtain ⟨o, r2, e, q⟩ := h
    refine ⟨o, r2, ?_, q⟩
    unfold mIndexO
    rw [q1]
    exact e
end
end DL
end

section
namespace DL
open PySem
section
variable {r : Ro}
@[simp, simp ↓] theorem W_sRaise {c : String} {Q : SO → Ro → Prop} : W (sRaise c) r Q ↔ Q (.exc ⟨c, none⟩) r :=
  ⟨fun ⟨o, r2, e, q⟩ => (by cases e; exact q), fun q => ⟨_, _, rfl, q⟩⟩
section
variable {L : List String} {i j : Nat} {ms : String → M RV} {Q : SO → Ro → Prop} {r1 : Ro}
end
end
end DL
end

section
namespace DL
open PySem
section
variable {r : Ro}
end
end DL
end

section
namespace DL
open PySem
end DL
end

section
namespace DL
open PySem
end DL
end

section
namespace DL
open PySem
@[simp] theorem gNeS_self {x : Str} : gNeS [.fz (.str x), .fz (.str x)] = some (.val (.bool false)) := by
  unfold gNeS
  simp [Rs.data]
/-- small things: they can be shown -/
structure Tny (w k : Nat) (d : D) : Prop where
  lay : d.canLay0 = true
  dep : d.depth ≤ k
  sho : PyData.showable d = true
  lea : PyData.leavesShort 13 d = true
  wei : d.weight ≤ w
theorem Tny.sh {w k : Nat} {d : D} (h : Tny w k d) (hr : isRow d = true) (hk : k ≤ 40) (hw : w ≤ 2 ^ 20) : shOk d = true := by
  unfold shOk okE
  have a := h.dep
  have b := h.wei
  rw [hr, h.lay, h.sho, h.lea, decide_eq_true (show d.depth ≤ 40 by omega), decide_eq_true (show d.weight ≤ 2 ^ 20 by omega)]
  rfl
section
variable {X : Exn → Ro → Prop} {r : Ro}
end
end DL
end

section
namespace DL
open PySem
section
variable {X : Exn → Ro → Prop} {r : Ro}
@[simp, simp ↓] theorem putP_dT {i : Nat} {ds : List (List Ky × D)} {x : Sl} {Q : SO → Ro → Prop} : putP i (.new (.dT ds)) r Q (some x) ↔ putSl.pinnedB x = false ∧ setP r i (.own false (.dT ds)) (Q .nx) := Iff.rfl
end
end DL
end

section
namespace DL
open PySem
section
variable {X : Exn → Ro → Prop} {r : Ro}
end
end DL
end

section
namespace DL
open PySem
section
variable {X : Exn → Ro → Prop} {r : Ro}
end
end DL
end

section
namespace DL
open PySem
end DL
end

section
namespace DL
open PySem
end DL
end

section
namespace DL
open PySem
@[simp, simp ↓] theorem E_mE0 {X : Exn → Ro → Prop} {r : Ro} {Q : RV → Ro → Prop} : E X mE0 r Q ↔ Q (.val (.dict [])) r := E_ret
theorem gReprT_l {ds : List D} {a : Rs} (e : a.data = some (.list ds)) (h : shL (.list ds) = true) : gReprT [a] = some (.val (.str (PyData.shown (.list ds)))) := by
  unfold gReprT
  simp only [e]
  rw [if_pos (by rw [h, Bool.or_true])]
end DL
end

section
namespace DL
open PySem
end DL
end

section
namespace DL
open PySem
end DL
end

section
namespace DL
open PySem
end DL
end

section
namespace DL
open PySem
section
variable {X : Exn → Ro → Prop} {r : Ro}
end
end DL
end

section
namespace DL
open PySem
def endTP (i : Nat) (Q : SO → Ro → Prop) (o : SO) (r : Ro) (t : Tok Q := .tok) : Prop := match o with
  | .nx => optP r[i]? fun z => putSl.pinnedB z = false ∧ setP r i .non (Q .nx)
  | .ret v => optP r[i]? fun z => putSl.pinnedB z = false ∧ setP r i .non (Q (.ret v))
  | _ => False
def trySP (L : List String) (i : Nat) (ms : String → S) (Q : SO → Ro → Prop) (o : SO) (r1 : Ro) (t : Tok Q := .tok) (u : Tok ms := .tok) : Prop := match o with
  | .exc x => x.row = none ∧ optP r1[i]? fun y => L.contains x.cls = true ∧ putSl.pinnedB y = false ∧ setP r1 i .non fun r1' => W (ms x.cls) r1' (fun o r => endTP i Q o r)
  | o => Q o r1
section
variable {L : List String} {i : Nat} {ms : String → S} {Q : SO → Ro → Prop} {r r1 : Ro}
@[simp, simp ↓] theorem endTP_nx : endTP i Q .nx r ↔ optP r[i]? fun z => putSl.pinnedB z = false ∧ setP r i .non (Q .nx) := Iff.rfl
@[simp, simp ↓] theorem endTP_ret {v : RV} : endTP i Q (.ret v) r ↔ optP r[i]? fun z => putSl.pinnedB z = false ∧ setP r i .non (Q (.ret v)) := Iff.rfl
@[simp, simp ↓] theorem trySP_nx : trySP L i ms Q .nx r1 ↔ Q .nx r1 := Iff.rfl
@[simp, simp ↓] theorem trySP_brk : trySP L i ms Q .brk r1 ↔ Q .brk r1 := Iff.rfl
@[simp, simp ↓] theorem trySP_cnt : trySP L i ms Q .cnt r1 ↔ Q .cnt r1 := Iff.rfl
@[simp, simp ↓] theorem trySP_ret {v : RV} : trySP L i ms Q (.ret v) r1 ↔ Q (.ret v) r1 := Iff.rfl
@[simp, simp ↓] theorem trySP_rets {k : Nat} : trySP L i ms Q (.rets k) r1 ↔ Q (.rets k) r1 := Iff.rfl
@[simp, simp ↓] theorem trySP_exc {x : Exn} : trySP L i ms Q (.exc x) r1 ↔ (x.row = none ∧ optP r1[i]? fun y => L.contains x.cls = true ∧ putSl.pinnedB y = false ∧ setP r1 i .non fun r1' => W (ms x.cls) r1' (fun o r => endTP i Q o r)) := Iff.rfl
@[simp, simp ↓] theorem W_sTryS {b : S} : W (sTryS b L i ms) r Q ↔ W b r fun o r1 => trySP L i ms Q o r1 := by
  constructor
  · rintro ⟨o, r2, e, q⟩
    unfold sTryS at e
    cases hb : b r with
    | none => rw [hb] at e; cases e
    | some z =>
      obtain ⟨o1, r1⟩ := z
      rw [hb] at e
      refine ⟨o1, r1, hb, ?_⟩
      cases o1 with
      | exc x =>
        simp only at e
        split at e
        · rename_i y hrow hy
          split at e
          · rename_i hc
            obtain ⟨c1, c2⟩ := hc
            unfold endTry at e
            split at e
            · rename_i r3 q3
              split at e
              · rename_i z hz
                split at e
                · rename_i hp
                  cases e
                  exact ⟨hrow, y, hy, c1, c2, .nx, r3, q3, z, hz, hp, q⟩
                · cases e
              · cases e
            · rename_i v r3 q3
              split at e
              · rename_i z hz
                split at e
                · rename_i hp
                  cases e
                  exact ⟨hrow, y, hy, c1, c2, .ret v, r3, q3, z, hz, hp, q⟩
                · cases e
              · cases e
            · cases e
          · cases e
        · cases e
      | nx => cases e; exact q
      | brk => cases e; exact q
      | cnt => cases e; exact q
      | ret v => cases e; exact q
      | rets k => cases e; exact q
  · rintro ⟨o1, r1, hb, q⟩
    cases o1 with
    | exc x =>
      obtain ⟨hrow, y, hy, c1, c2, o, r3, q3, q⟩ := q
      have q3 : ms x.cls (r1.set i .non) = some (o, r3) := q3
      cases o with
      | nx =>
        obtain ⟨z, hz, hp, q⟩ := q
        refine ⟨.nx, r3.set i .non, ?_, q⟩
        unfold sTryS
        rw [hb]
        simp only
        rw [hrow, hy]
        simp only
        rw [if_pos ⟨c1, c2⟩, q3]
        unfold endTry
        simp only
        rw [hz]
        simp only
        rw [if_pos hp]
      | ret v =>
        obtain ⟨z, hz, hp, q⟩ := q
        refine ⟨.ret v, r3.set i .non, ?_, q⟩
        unfold sTryS
        rw [hb]
        simp only
        rw [hrow, hy]
        simp only
        rw [if_pos ⟨c1, c2⟩, q3]
        unfold endTry
        simp only
        rw [hz]
        simp only
        rw [if_pos hp]
      | _ => exact q.elim
    | nx => exact ⟨_, _, by unfold sTryS; rw [hb], q⟩
    | brk => exact ⟨_, _, by unfold sTryS; rw [hb], q⟩
    | cnt => exact ⟨_, _, by unfold sTryS; rw [hb], q⟩
    | ret v => exact ⟨_, _, by unfold sTryS; rw [hb], q⟩
    | rets k => exact ⟨_, _, by unfold sTryS; rw [hb], q⟩
@[simp] theorem exSelS_1 {x : String} {a b : S} : exSelS x a b x = a := if_pos rfl
def callVP (X : Exn → Ro → Prop) (tbl : List (Str × Sem)) (ms : List (M AV)) (r : Ro) (Q : RV → Ro → Prop) (x : Option Sl) (t : Tok Q := .tok) (u : Tok ms := .tok) : Prop := match x with
  | some (.frz _ d) => optP ((fnName d).bind fun x => tbl.lookup x) fun f => E X (mCall f ms) r Q
  | _ => False
variable {X : Exn → Ro → Prop} {tbl : List (Str × Sem)} {mm : List (M AV)} {K : RV → Ro → Prop}
@[simp, simp ↓] theorem callVP_frz {b : Bool} {d : D} : callVP X tbl mm r K (some (.frz b d)) ↔ optP ((fnName d).bind fun x => tbl.lookup x) fun f => E X (mCall f mm) r K := Iff.rfl
@[simp] theorem fnName_fn {x : Str} : fnName (fnD x) = some x := rfl
@[simp, simp ↓] theorem E_mCallV : E X (mCallV i tbl mm) r K ↔ callVP X tbl mm r K r[i]? := by
  have no : mCallV i tbl mm r = none → ¬ E X (mCallV i tbl mm) r K := fun h => (E_no h).mp
  cases h : r[i]? with
  | none => exact ⟨fun q => (no (by unfold mCallV; rw [h]) q).elim, fun q => q.elim⟩
  | some x =>
    cases x with
    | frz b d =>
      rw [callVP_frz]
      cases hn : (fnName d).bind fun x => tbl.lookup x with
      | none => exact ⟨fun q => (no (by unfold mCallV; rw [h]; simp only [hn]) q).elim, fun q => by simp at q⟩
      | some f =>
        have e : mCallV i tbl mm r = mCall f mm r := by unfold mCallV; rw [h]; simp only [hn]
        rw [optP_some]
        unfold E
        rw [e]
    | _ => exact ⟨fun q => (no (by unfold mCallV; rw [h]) q).elim, fun q => q.elim⟩
end
end DL
end

section
namespace DL
open PySem
end DL
end

section
namespace Lw
open PySem DL
/-- place_of(web, end): slots 0:web 1:end -/
noncomputable def b_place_of_8c4c : S :=
    (sRet (mOp gIx [(oE (mOp gIx [(oE (mOp gIx [(oS 0), (oE (mC (.int 1)))])), (oE (mOp gDiv [(oS 1), (oE (mC (.int 2)))]))])), (oE (mOp gMod [(oS 1), (oE (mC (.int 2)))]))]))
noncomputable def sem_place_of_8c4c : Sem := defSem 2 2 b_place_of_8c4c
/-- _law_pen(_law_script): slots 0:_law_script 1:_law_cell -/
noncomputable def b_Lpen_3d2f : S :=
    (sRet (mOp gLst [(oE (mLc [1] (mRow (mSl (oS 0) none (some (oE (mC (.int 63)))))) (setN 1) mYes (mRd 1))), (oE (mC (.int 0))), (oE (mC (.int 0)))]))
noncomputable def sem_Lpen_3d2f : Sem := defSem 1 2 b_Lpen_3d2f
/-- _law_draw(_law_pen_here, _law_many): slots 0:_law_pen_here 1:_law_many 2:_law_at 3:_law_cell 4:_law_number 5:_law_digit -/
noncomputable def b_Ldraw_de5b : S :=
    (sSeq (sIf (mTst (mOp gGt [(oE (mOp gIx [(oS 0), (oE (mC (.int 2)))])), (oE (mC (.int 0)))])) (sSeq (sSet 5 (mOp gMod [(oE (mOp gIx [(oS 0), (oE (mC (.int 2)))])), (oS 1)]))
    (sSeq (sSub 0 (mOp gDiv [(oE (mOp gIx [(oS 0), (oE (mC (.int 2)))])), (oS 1)]) (oE (mC (.int 2))))
    (sRet (mRd 5)))) sNx)
    (sSeq (sSet 2 (mOp gIx [(oS 0), (oE (mC (.int 1)))]))
    (sSeq (sSub 0 (mOp gAdd [(oS 2), (oE (mC (.int 1)))]) (oE (mC (.int 1))))
    (sSeq (sSet 3 (mC (.int 11)))
    (sSeq (sIf (mTst (mOp gGt [(oE (mOp gLen [(oE (mOp gIx [(oS 0), (oE (mC (.int 0)))]))])), (oE (mC (.int 0)))])) (sSet 3 (mOp gIx [(oE (mOp gIx [(oS 0), (oE (mC (.int 0)))])), (oE (mOp gMod [(oS 2), (oE (mOp gLen [(oE (mOp gIx [(oS 0), (oE (mC (.int 0)))]))]))]))])) sNx)
    (sSeq (sIf (mAnd (mTst (mOp gLt [(oS 2), (oE (mOp gLen [(oE (mOp gIx [(oS 0), (oE (mC (.int 0)))]))]))])) (mTst (mOp gGe [(oE (mOp gAbs [(oS 3)])), (oE (mOp gPow [(oE (mC (.int 10))), (oE (mC (.int 18)))]))]))) (sSeq (sSub 0 (mOp gDiv [(oE (mOp gAbs [(oS 3)])), (oS 1)]) (oE (mC (.int 2))))
    (sRet (mOp gMod [(oE (mOp gAbs [(oS 3)])), (oS 1)]))) sNx)
    (sSeq (sSet 4 (mOp gMod [(oE (mOp gMul [(oE (mOp gAdd [(oE (mOp gAdd [(oE (mOp gMod [(oS 3), (oE (mC (.int 2147483647)))])), (oE (mOp gMul [(oE (mC (.int 69621))), (oS 2)]))])), (oE (mC (.int 13)))])), (oE (mC (.int 48271)))])), (oE (mC (.int 2147483629)))]))
    (sSeq (sSet 4 (mOp gMod [(oE (mOp gAdd [(oE (mOp gAdd [(oE (mOp gMul [(oS 4), (oS 4)])), (oE (mOp gMul [(oE (mC (.int 40692))), (oS 4)]))])), (oS 2)])), (oE (mC (.int 2147483587)))]))
    (sRet (mOp gMod [(oE (mOp gDiv [(oE (mOp gMod [(oE (mOp gMul [(oS 4), (oE (mC (.int 16807)))])), (oE (mC (.int 2147483563)))])), (oE (mC (.int 32)))])), (oS 1)]))))))))))
noncomputable def sem_Ldraw_de5b : Sem := defSem 2 6 b_Ldraw_de5b
/-- _law_web(_law_pen_here, _law_places, _law_ties): slots 0:_law_pen_here 1:_law_places 2:_law_ties 3:_law_many 4:_law_way 5:_law_count 6:_law_found 7:_law_k 8:_law_a 9:_law_b -/
noncomputable def b_Lweb_0350 : S :=
    (sSeq (sSet 3 (mOp gAdd [(oE (mC (.int 1))), (oE (mCall sem_Ldraw_de5b [(oS 0), (oS 1)]))]))
    (sSeq (sSet 4 (mCall sem_Ldraw_de5b [(oS 0), (oE (mC (.int 6)))]))
    (sSeq (sSet 5 (mCall sem_Ldraw_de5b [(oS 0), (oE (mOp gAdd [(oS 2), (oE (mC (.int 1)))]))]))
    (sSeq (sIf (mTst (mOp gEq [(oS 4), (oE (mC (.int 5)))])) (sSeq (sSet 3 (mRd 1))
    (sSet 5 (mRd 2))) sNx)
    (sSeq (sSet 6 (mOp gLst []))
    (sSeq (sFor (mOpL gRng1 [(oS 5)]) (setN 7) (sSeq (sPar 8 9 (mCall sem_Ldraw_de5b [(oS 0), (oS 3)]) (mCall sem_Ldraw_de5b [(oS 0), (oS 3)]))
    (sSeq (sIf (mTst (mOp gEq [(oS 4), (oE (mC (.int 1)))])) (sPar 8 9 (mOp gMod [(oS 7), (oS 3)]) (mOp gMod [(oE (mOp gAdd [(oS 7), (oE (mC (.int 1)))])), (oS 3)])) sNx)
    (sSeq (sIf (mTst (mOp gEq [(oS 4), (oE (mC (.int 2)))])) (sSet 8 (mC (.int 0))) sNx)
    (sSeq (sIf (mTst (mOp gEq [(oS 4), (oE (mC (.int 3)))])) (sSet 9 (mOp gAdd [(oE (mOp gMod [(oS 8), (oE (mC (.int 2)))])), (oE (mOp gMul [(oE (mOp gDiv [(oS 9), (oE (mC (.int 2)))])), (oE (mC (.int 2)))]))])) sNx)
    (sSeq (sIf (mAnd (mTst (mOp gEq [(oS 4), (oE (mC (.int 4)))])) (mTst (mOp gEq [(oE (mOp gMod [(oS 9), (oE (mC (.int 2)))])), (oE (mC (.int 0)))]))) (sSet 9 (mRd 8)) sNx)
    (sDrop (mMut gAppend 6 [(oE (mOp gTup [(oE (mRd 8)), (oE (mOp gMin2 [(oS 9), (oE (mOp gSub [(oS 3), (oE (mC (.int 1)))]))]))]))]))))))))
    (sRet (mOp gTup [(oE (mRd 3)), (oE (mOp gTuple [(oS 6)]))]))))))))
noncomputable def sem_Lweb_0350 : Sem := defSem 3 10 b_Lweb_0350
/-- _law_order(_law_pen_here, _law_web_here): slots 0:_law_pen_here 1:_law_web_here 2:_law_rows 3:_law_k 4:_law_row 5:_law_place -/
noncomputable def b_Lorder_8e8e : S :=
    (sSeq (sSet 2 (mLcL [5] (mOpL gRng1 [(oE (mOp gIx [(oS 1), (oE (mC (.int 0)))]))]) (setN 5) mYes (mOp gLst [])))
    (sSeq (sFor (mOpL gRng1 [(oE (mOp gMul [(oE (mC (.int 2))), (oE (mOp gLen [(oE (mOp gIx [(oS 1), (oE (mC (.int 1)))]))]))]))]) (setN 3) (sSeq (sAl 4 2 (oE (mOp gIx [(oE (mOp gIx [(oE (mOp gIx [(oS 1), (oE (mC (.int 1)))])), (oE (mOp gDiv [(oS 3), (oE (mC (.int 2)))]))])), (oE (mOp gMod [(oS 3), (oE (mC (.int 2)))]))])))
    (sDrop (mMut gInsert 4 [(oE (mOp gMin2 [(oE (mOp gLen [(oS 4)])), (oE (mOp gAdd [(oE (mC (.int 1))), (oE (mCall sem_Ldraw_de5b [(oS 0), (oE (mOp gMax2 [(oE (mC (.int 1))), (oE (mOp gLen [(oS 4)]))]))]))]))])), (oE (mRd 3))]))))
    (sRet (mOp gTuple [(oE (mLc [4] (mRow (mRd 2)) (setN 4) mYes (mOp gTuple [(oS 4)])))]))))
noncomputable def sem_Lorder_8e8e : Sem := defSem 2 6 b_Lorder_8e8e
/-- is_whole(thing): slots 0:thing -/
noncomputable def b_is_whole_637d : S :=
    (sRet (mAndV (mIsi [.int] (oS 0)) (mNotV (mIsi [.bool] (oS 0)))))
noncomputable def sem_is_whole_637d : Sem := defSem 1 1 b_is_whole_637d
/-- begun(row): slots 0:row 1:at -/
noncomputable def b_begun_fe2e : S :=
    (sSeq (sIf (mTst (mOp gEq [(oE (mOp gLen [(oS 0)])), (oE (mC (.int 0)))])) (sRet (mOp gTup [])) sNx)
    (sSeq (sSet 0 (mOp gList [(oS 0)]))
    (sSeq (sSet 1 (mIndex (mRd 0) (oE (mOp gMinL [(oS 0)]))))
    (sRet (mOp gTuple [(oE (mOp gAdd [(oE (mSl (oS 0) (some (oS 1)) none)), (oE (mSl (oS 0) none (some (oS 1))))]))])))))
noncomputable def sem_begun_fe2e : Sem := defSem 1 2 b_begun_fe2e
end Lw
end

section
namespace Lw
open PySem DL
/-- is_corner(web, order, corner): slots 0:web 1:order 2:corner -/
noncomputable def b_is_corner_0de1 : S :=
    (sSeq (sIf (mTst (mCall sem_is_whole_637d [(oS 2)])) (sRet (mChain gLe gLt (oE (mC (.int 0))) (oS 2) (oE (mOp gMul [(oE (mC (.int 2))), (oE (mOp gLen [(oE (mOp gIx [(oS 0), (oE (mC (.int 1)))]))]))])))) sNx)
    (sSeq (sIf (mOr (mNot (mTst (mIsi [.tuple] (oS 2)))) (mOr (mTst (mOp gNe [(oE (mOp gLen [(oS 2)])), (oE (mC (.int 2)))])) (mOr (mTst (mOp gNe [(oE (mOp gIx [(oS 2), (oE (mC (.int 0)))])), (oE (mC (.str (Str.ofString "place"))))])) (mNot (mTst (mCall sem_is_whole_637d [(oE (mOp gIx [(oS 2), (oE (mC (.int 1)))]))])))))) (sRet (mC (.bool false))) sNx)
    (sRet (mAndV (mChain gLe gLt (oE (mC (.int 0))) (oE (mOp gIx [(oS 2), (oE (mC (.int 1)))])) (oE (mOp gIx [(oS 0), (oE (mC (.int 0)))]))) (mOp gEq [(oE (mOp gIx [(oS 1), (oE (mOp gIx [(oS 2), (oE (mC (.int 1)))]))])), (oE (mOp gTup []))])))))
noncomputable def sem_is_corner_0de1 : Sem := defSem 3 3 b_is_corner_0de1
/-- corner_place(web, corner): slots 0:web 1:corner -/
noncomputable def b_corner_place_c3d1 : S :=
    (sSeq (sIf (mTst (mIsi [.tuple] (oS 1))) (sRet (mOp gIx [(oS 1), (oE (mC (.int 1)))])) sNx)
    (sRet (mCall sem_place_of_8c4c [(oS 0), (oS 1)])))
noncomputable def sem_corner_place_c3d1 : Sem := defSem 2 2 b_corner_place_c3d1
/-- put_behind(row, corner, end): slots 0:row 1:corner 2:end 3:at -/
noncomputable def b_put_behind_7da8 : S :=
    (sSeq (sSet 3 (mOp gLen [(oS 0)]))
    (sSeq (sIf (mTst (mOp (gInS false) [(oS 1), (oS 0)])) (sSet 3 (mOp gAdd [(oE (mIndexO 0 (oS 1))), (oE (mC (.int 1)))])) sNx)
    (sDrop (mMut gInsert 0 [(oE (mRd 3)), (oE (mRd 2))]))))
noncomputable def sem_put_behind_7da8 : Sem := defSem 3 4 b_put_behind_7da8
/-- _law_corner(_law_pen_here, _law_web_here, _law_order_here): slots 0:_law_pen_here 1:_law_web_here 2:_law_order_here 3:_law_bare 4:_law_place -/
noncomputable def b_Lcorner_5df4 : S :=
    (sSeq (sSet 3 (mLc [4] (mOpL gRng1 [(oE (mOp gIx [(oS 1), (oE (mC (.int 0)))]))]) (setN 4) (mTst (mOp gEq [(oE (mOp gIx [(oS 2), (oS 4)])), (oE (mOp gTup []))])) (mRd 4)))
    (sSeq (sIf (mOr (mTst (mOp gEq [(oE (mOp gLen [(oE (mOp gIx [(oS 1), (oE (mC (.int 1)))]))])), (oE (mC (.int 0)))])) (mAnd (mTst (mOp gGt [(oE (mOp gLen [(oS 3)])), (oE (mC (.int 0)))])) (mTst (mOp gEq [(oE (mCall sem_Ldraw_de5b [(oS 0), (oE (mC (.int 3)))])), (oE (mC (.int 0)))])))) (sRet (mOp gTup [(oE (mC (.str (Str.ofString "place")))), (oE (mOp gIx [(oS 3), (oE (mCall sem_Ldraw_de5b [(oS 0), (oE (mOp gLen [(oS 3)]))]))]))])) sNx)
    (sRet (mCall sem_Ldraw_de5b [(oS 0), (oE (mOp gMul [(oE (mC (.int 2))), (oE (mOp gLen [(oE (mOp gIx [(oS 1), (oE (mC (.int 1)))]))]))]))]))))
noncomputable def sem_Lcorner_5df4 : Sem := defSem 3 5 b_Lcorner_5df4
end Lw
end

section
namespace Lw
open PySem DL
/-- put_in(web, order, one, other): slots 0:web 1:order 2:one 3:other 4:rows 5:begin 6:end 7:many 8:ties 9:row -/
noncomputable def b_put_in_c1efR : S :=
    (sSeq (sIf (mOr (mNot (mTst (mCall sem_is_corner_0de1 [(oS 0), (oS 1), (oS 2)]))) (mNot (mTst (mCall sem_is_corner_0de1 [(oS 0), (oS 1), (oS 3)])))) (sRaise "NoEnd") sNx)
    (sSeq (sUnp (mRd 0) (setT [(setN 7), (setN 8)]))
    (sSeq (sIf (mTst (mOp gEq [(oE (mOp gLen [(oS 8)])), (oE (mC (.int 24)))])) (sRaise "TooGreat") sNx)
    (sSeq (sSet 4 (mLcL [9] (mRow (mRd 1)) (setN 9) mYes (mOp gList [(oS 9)])))
    (sSeq (sSet 5 (mCall sem_corner_place_c3d1 [(oS 0), (oS 2)]))
    (sSeq (sSet 6 (mCall sem_corner_place_c3d1 [(oS 0), (oS 3)]))
    (sSeq (sDrop (mCallIx sem_put_behind_7da8 4 (oS 5) [(oS 2), (oE (mOp gMul [(oE (mC (.int 2))), (oE (mOp gLen [(oS 8)]))]))]))
    (sSeq (sDrop (mCallIx sem_put_behind_7da8 4 (oS 6) [(oS 3), (oE (mOp gAdd [(oE (mOp gMul [(oE (mC (.int 2))), (oE (mOp gLen [(oS 8)]))])), (oE (mC (.int 1)))]))]))
    (sRet (mOp gTup [(oE (mOp gTup [(oE (mRd 7)), (oE (mOp gAdd [(oS 8), (oE (mOp gTup [(oE (mOp gTup [(oE (mRd 5)), (oE (mRd 6))]))]))]))])), (oE (mOp gTuple [(oE (mLc [9] (mRow (mRd 4)) (setN 9) mYes (mCall sem_begun_fe2e [(oS 9)])))]))]))))))))))
noncomputable def sem_put_in_c1efR : Sem := defSem 4 10 b_put_in_c1efR
/-- _law_refused(_law_asked): slots 0:_law_asked 1:_law_web_here 2:_law_order_here 3:_law_one 4:_law_other -/
noncomputable def b_Lrefused_b97aR : S :=
    (sSeq (sUnp (mRd 0) (setT [(setN 1), (setN 2), (setN 3), (setN 4)]))
    (sRet (mCall sem_put_in_c1efR [(oS 1), (oS 2), (oS 3), (oS 4)])))
noncomputable def sem_Lrefused_b97aR : Sem := defSem 1 5 b_Lrefused_b97aR
/-- _law_refusal(_law_call, _law_things): slots 0:_law_call 1:_law_things 2:e 3:_law_found 4:_law_k -/
noncomputable def b_Lrefusal_9f4eR : S :=
    (sSeq (sTryS (sDrop (mCallV 0 [("_law_refused", sem_Lrefused_b97aR)] [(oE (mRd 1))])) ["NoEnd", "TooGreat"] 2 (exSelS "NoEnd" (sSeq (sSet 3 (mOp gLst [(oE (mC (.bool false))), (oE (mC (.bool false))), (oE (mC (.bool false))), (oE (mC (.bool true)))])) (sSeq (sSet 3 (mOp gAdd [(oS 3), (oE (mOp gLst [(oE (mC (.bool false))), (oE (mC (.bool false))), (oE (mC (.bool false))), (oE (mC (.bool false)))]))])) (sSeq (sSet 3 (mOp gAdd [(oS 3), (oE (mOp gLst [(oE (mC (.bool false))), (oE (mC (.bool false))), (oE (mC (.bool false))), (oE (mC (.bool false)))]))])) (sSeq (sSet 3 (mOp gAdd [(oS 3), (oE (mOp gLst [(oE (mC (.bool false))), (oE (mC (.bool false))), (oE (mC (.bool false)))]))])) (sRet (mLc [4] (mOpL gRng1 [(oE (mC (.int 15)))]) (setN 4) (mTst (mOp gIx [(oS 3), (oS 4)])) (mRd 4))))))) (sSeq (sSet 3 (mOp gLst [(oE (mC (.bool false))), (oE (mC (.bool false))), (oE (mC (.bool false))), (oE (mC (.bool false)))])) (sSeq (sSet 3 (mOp gAdd [(oS 3), (oE (mOp gLst [(oE (mC (.bool false))), (oE (mC (.bool false))), (oE (mC (.bool false))), (oE (mC (.bool false)))]))])) (sSeq (sSet 3 (mOp gAdd [(oS 3), (oE (mOp gLst [(oE (mC (.bool false))), (oE (mC (.bool false))), (oE (mC (.bool false))), (oE (mC (.bool true)))]))])) (sSeq (sSet 3 (mOp gAdd [(oS 3), (oE (mOp gLst [(oE (mC (.bool false))), (oE (mC (.bool false))), (oE (mC (.bool false)))]))])) (sRet (mLc [4] (mOpL gRng1 [(oE (mC (.int 15)))]) (setN 4) (mTst (mOp gIx [(oS 3), (oS 4)])) (mRd 4)))))))))
    (sRet (mC .none)))
noncomputable def sem_Lrefusal_9f4eR : Sem := defSem 2 5 b_Lrefusal_9f4eR
/-- _law_bad(_law_pen_here, _law_web_here, _law_order_here): slots 0:_law_pen_here 1:_law_web_here 2:_law_order_here 3:_law_ends 4:_law_full 5:_law_bare 6:_law_place 7:_law_some -/
noncomputable def b_Lbad_34c0 : S :=
    (sSeq (sSet 3 (mOp gMul [(oE (mC (.int 2))), (oE (mOp gLen [(oE (mOp gIx [(oS 1), (oE (mC (.int 1)))]))]))]))
    (sSeq (sSet 4 (mOp gAdd [(oE (mLc [6] (mOpL gRng1 [(oE (mOp gIx [(oS 1), (oE (mC (.int 0)))]))]) (setN 6) (mTst (mOp gNe [(oE (mOp gIx [(oS 2), (oS 6)])), (oE (mOp gTup []))])) (mRd 6))), (oE (mOp gLst [(oE (mOp gIx [(oS 1), (oE (mC (.int 0)))])), (oE (mOp gNeg [(oE (mC (.int 1)))]))]))]))
    (sSeq (sSet 5 (mOp gAdd [(oE (mLc [6] (mOpL gRng1 [(oE (mOp gIx [(oS 1), (oE (mC (.int 0)))]))]) (setN 6) (mTst (mOp gEq [(oE (mOp gIx [(oS 2), (oS 6)])), (oE (mOp gTup []))])) (mRd 6))), (oE (mOp gLst [(oE (mC (.int 0)))]))]))
    (sSeq (sSet 6 (mOp gIx [(oS 4), (oE (mCall sem_Ldraw_de5b [(oS 0), (oE (mOp gLen [(oS 4)]))]))]))
    (sSeq (sSet 7 (mOp gLst [(oE (mOp gSub [(oE (mOp gNeg [(oE (mC (.int 1)))])), (oE (mCall sem_Ldraw_de5b [(oS 0), (oE (mC (.int 9)))]))])), (oE (mRd 3)), (oE (mOp gAdd [(oS 3), (oE (mCall sem_Ldraw_de5b [(oS 0), (oE (mOp gPow [(oE (mC (.int 10))), (oE (mC (.int 59)))]))]))])), (oE (mC (.bool true))), (oE (mC (.bool false))), (oE (mC .none)), (oE (mC (.str (Str.ofString "0")))), (oE (mC (.str (Str.ofString "place")))), (oE (mC (.str (Str.ofString ""))))]))
    (sSeq (sSet 7 (mOp gAdd [(oS 7), (oE (mOp gLst [(oE mE0), (oE (mOp gLst [])), (oE (mOp gTup [])), (oE (mOp gTup [(oE (mC (.str (Str.ofString "place")))), (oE (mC (.bool true)))])), (oE (mOp gTup [(oE (mC (.str (Str.ofString "place")))), (oE (mC (.bool false)))]))]))]))
    (sSeq (sSet 7 (mOp gAdd [(oS 7), (oE (mOp gLst [(oE (mOp gTup [(oE (mC (.str (Str.ofString "place"))))])), (oE (mOp gTup [(oE (mC (.str (Str.ofString "place")))), (oE (mRd 6))])), (oE (mOp gLst [(oE (mC (.str (Str.ofString "place")))), (oE (mOp gIx [(oS 5), (oE (mC (.int 0)))]))])), (oE (mOp gTup [(oE (mC (.str (Str.ofString "places")))), (oE (mOp gIx [(oS 5), (oE (mC (.int 0)))]))])), (oE (mOp gTup [(oE (mC (.str (Str.ofString "place")))), (oE (mOp gIx [(oS 5), (oE (mC (.int 0)))])), (oE (mC (.int 0)))]))]))]))
    (sSeq (sSet 7 (mOp gAdd [(oS 7), (oE (mOp gLst [(oE (mOp gTup [(oE (mC (.str (Str.ofString "place")))), (oE (mC .none))])), (oE (mOp gTup [(oE (mC (.str (Str.ofString "place")))), (oE (mC (.str (Str.ofString "0"))))])), (oE (mOp gTup [(oE (mC (.int 0)))])), (oE (mOp gLst [(oE (mC (.int 0)))])), (oE (mOp gTup [(oE (mC (.int 0))), (oE (mC (.str (Str.ofString "place"))))])), (oE (mOp gTup [(oE (mC (.str (Str.ofString "place")))), (oE (mOp gTup [(oE (mOp gIx [(oS 5), (oE (mC (.int 0)))]))]))])), (oE (mOp gTup [(oE (mC (.str (Str.ofString "place")))), (oE (mOp gIx [(oS 1), (oE (mC (.int 0)))]))]))]))]))
    (sSeq (sSet 7 (mOp gAdd [(oS 7), (oE (mOp gLst [(oE (mOp gTup [(oE (mC (.str (Str.ofString "place")))), (oE (mOp gLst [(oE (mOp gIx [(oS 5), (oE (mC (.int 0)))]))]))])), (oE (mOp gTup [(oE (mC (.str (Str.ofString "place")))), (oE mE0)])), (oE (mOp gTup [(oE (mOp gLst [])), (oE (mC (.int 0)))]))]))]))
    (sRet (mOp gIx [(oS 7), (oE (mCall sem_Ldraw_de5b [(oS 0), (oE (mOp gLen [(oS 7)]))]))])))))))))))
noncomputable def sem_Lbad_34c0 : Sem := defSem 3 8 b_Lbad_34c0
/-- law(_law_script): slots 0:_law_script 1:_law_pen_here 2:_law_web_here 3:_law_order_here 4:_law_k 5:_law_good 6:_law_due 7:_law_way 8:_law_bad_here 9:_law_asked 10:_law_kept 11:_law_j -/
noncomputable def b_law_87ceR : S :=
    (sSeq (sSet 1 (mCall sem_Lpen_3d2f [(oS 0)]))
    (sSeq (sSet 2 (mCall sem_Lweb_0350 [(oS 1), (oE (mC (.int 25))), (oE (mC (.int 24)))]))
    (sSeq (sSet 3 (mCall sem_Lorder_8e8e [(oS 1), (oS 2)]))
    (sSeq (sFor (mOpL gRng1 [(oE (mOp gAdd [(oE (mC (.int 1))), (oE (mCall sem_Ldraw_de5b [(oS 1), (oE (mC (.int 12)))]))]))]) (setN 4) (sSeq (sSet 5 (mOp gLst [(oE (mCall sem_Lcorner_5df4 [(oS 1), (oS 2), (oS 3)])), (oE (mCall sem_Lcorner_5df4 [(oS 1), (oS 2), (oS 3)]))]))
    (sSeq (sSet 6 (mOp gIx [(oE (mOp gLst [(oE (mC .none)), (oE (mOp gLst [(oE (mC (.int 11)))]))])), (oE (mOp gInt [(oE (mOp gEq [(oE (mOp gLen [(oE (mOp gIx [(oS 2), (oE (mC (.int 1)))]))])), (oE (mC (.int 24)))]))]))]))
    (sSeq (sIf (mTst (mOp gNe [(oE (mCall sem_Lrefusal_9f4eR [(oE (mC (fnD "_law_refused"))), (oE (mOp gTup [(oE (mRd 2)), (oE (mRd 3)), (oE (mOp gIx [(oS 5), (oE (mC (.int 0)))])), (oE (mOp gIx [(oS 5), (oE (mC (.int 1)))]))]))])), (oS 6)])) (sRet (mC (.bool false))) sNx)
    (sSeq (sSet 7 (mOp gAdd [(oE (mC (.int 1))), (oE (mCall sem_Ldraw_de5b [(oS 1), (oE (mC (.int 3)))]))]))
    (sSeq (sSet 8 (mOp gLst [(oE (mCall sem_Lbad_34c0 [(oS 1), (oS 2), (oS 3)])), (oE (mCall sem_Lbad_34c0 [(oS 1), (oS 2), (oS 3)]))]))
    (sSeq (sSet 9 (mLc [11] (mOpL gRng1 [(oE (mC (.int 2)))]) (setN 11) mYes (mOp gIx [(oE (mOp gLst [(oE (mOp gIx [(oS 5), (oS 11)])), (oE (mOp gIx [(oS 8), (oS 11)]))])), (oE (mOp gMod [(oE (mOp gDiv [(oS 7), (oE (mOp gAdd [(oE (mC (.int 1))), (oS 11)]))])), (oE (mC (.int 2)))]))])))
    (sSeq (sSet 10 (mOp gReprT [(oS 9)]))
    (sSeq (sIf (mOr (mTst (mOp gNe [(oE (mCall sem_Lrefusal_9f4eR [(oE (mC (fnD "_law_refused"))), (oE (mOp gTup [(oE (mRd 2)), (oE (mRd 3)), (oE (mOp gIx [(oS 9), (oE (mC (.int 0)))])), (oE (mOp gIx [(oS 9), (oE (mC (.int 1)))]))]))])), (oE (mOp gLst [(oE (mC (.int 3)))]))])) (mTst (mOp gNeS [(oE (mOp gReprT [(oS 9)])), (oS 10)]))) (sRet (mC (.bool false))) sNx)
    (sIf (mTst (mOp gNe [(oE (mCall sem_Lrefusal_9f4eR [(oE (mC (fnD "_law_refused"))), (oE (mOp gTup [(oE (mRd 2)), (oE (mRd 3)), (oE (mOp gIx [(oS 5), (oE (mC (.int 1)))])), (oE (mOp gIx [(oS 5), (oE (mC (.int 0)))]))]))])), (oS 6)])) (sRet (mC (.bool false))) sNx))))))))))
    (sRet (mC (.bool true)))))))
noncomputable def sem_law_87ceR : Sem := defSem 1 12 b_law_87ceR
end Lw
end

section
namespace Lw
open PySem DL
/-- a pen: cells, a count, digits -/
structure Pen (n : Nat) (p : List D) : Prop where
  ex : ∃ (cs : List Int) (a g : Int), p = [.list (cs.map .int), .int a, .int g] ∧ 0 ≤ a ∧ a ≤ n ∧ 0 ≤ g ∧ cs.length ≤ 63
theorem ixP_map {cs : List Int} {i : Int} (h0 : 0 ≤ i) (h1 : i < cs.length) : ∃ c, ixP (cs.map .int) i = some (.int c) := by
  refine ⟨cs[i.toNat]'(by omega), ixP_pos h0 ?_⟩
  rw [List.getElem?_map, List.getElem?_eq_getElem (by omega)]
  rfl
set_option maxHeartbeats 1000000 in
theorem draw_ok {n : Nat} {p : List D} {m : Int} (hp : Pen n p) (hn : n ≤ 1000000) (hm : 1 ≤ m ∧ m ≤ 1000000) :
    Oks sem_Ldraw_de5b [.ow (.lst p), .fz (.int m)] fun v ys => ∃ r p', v = .ok (.val (.int r)) ∧ ys = [.ow (.lst p'), .fz (.int m)] ∧ 0 ≤ r ∧ r < m ∧ Pen (n + 1) p' := by
  obtain ⟨cs, a, g, rfl, ha, hn2, hg, hcs⟩ := hp.ex
  refine oks_def rfl ?_
  have m0 : 0 < m := by omega
  have pow : (10 : Int) ^ 18 = 1000000000000000000 := by decide
  have mm : SmD m := smD_of (by omega)
  have r0 : ∀ x : Int, 0 ≤ x % m := fun x => Int.emod_nonneg _ (by omega)
  have r1 : ∀ x : Int, x % m < m := fun x => Int.emod_lt_of_pos _ m0
  by_cases hg0 : 0 < g
  · simp [b_Ldraw_de5b, hg0, -getElem?_pos, -getElem?_neg, List.getElem?_cons_zero, List.getElem?_cons_succ, m0, mm, r0, r1]
    exact ⟨cs, a, g / m, rfl, ha, by omega, Int.ediv_nonneg hg (by omega), hcs⟩
  · have s1 : SmM 69621 a := smM_of (by omega) (by omega)
    have s2 : ∀ c : Int, SmM (c % 2147483647 + 69621 * a + 13) 48271 := fun c => smM_of (by omega) (by omega)
    have key : ∀ x : Int, 0 ≤ x % 2147483629 ∧ x % 2147483629 < 2147483629 := fun x => by omega
    have s3 : ∀ x : Int, SmM (x % 2147483629) (x % 2147483629) := fun c => smM_of (by omega) (by omega)
    have s4 : ∀ x : Int, SmM 40692 (x % 2147483629) := fun c => smM_of (by omega) (by omega)
    have s5 : ∀ x : Int, SmM (x % 2147483587) 16807 := fun c => smM_of (by omega) (by omega)
    have s6 : SmD 32 := smD_of (by omega)
    have pen1 : ∀ g', 0 ≤ g' → Pen (n + 1) [.list (cs.map .int), .int (a + 1), .int g'] := fun g' h => ⟨cs, a + 1, g', rfl, by omega, by omega, h, hcs⟩
    by_cases hl : 0 < cs.length
    · obtain ⟨c, hc⟩ := ixP_map (cs := cs) (i := a % cs.length) (Int.emod_nonneg _ (by omega)) (Int.emod_lt_of_pos _ (by omega))
      by_cases h2 : a < cs.length ∧ 10 ^ 18 ≤ (if c < 0 then -c else c)
      · have h2' := h2.2
        rw [pow] at h2'
        simp [b_Ldraw_de5b, hg0, -getElem?_pos, -getElem?_neg, List.getElem?_cons_zero, List.getElem?_cons_succ, m0, mm, r0, r1, s1, s2, s3, s4, s5, s6, hl, hc, h2.1, h2', pow]
        exact pen1 _ (Int.ediv_nonneg (by omega) (by omega))
      · by_cases h3 : a < cs.length
        · have h2' : ¬ 1000000000000000000 ≤ (if c < 0 then -c else c) := fun h => h2 ⟨h3, by rw [pow]; exact h⟩
          simp [b_Ldraw_de5b, hg0, -getElem?_pos, -getElem?_neg, List.getElem?_cons_zero, List.getElem?_cons_succ, m0, mm, r0, r1, s1, s2, s3, s4, s5, s6, hl, hc, h3, h2', pow]
          exact pen1 _ hg
        · simp [b_Ldraw_de5b, hg0, -getElem?_pos, -getElem?_neg, List.getElem?_cons_zero, List.getElem?_cons_succ, m0, mm, r0, r1, s1, s2, s3, s4, s5, s6, hl, hc, h3]
          exact pen1 _ hg
    · have hl2 : cs.length = 0 := by omega
      have h3 : ¬ a < 0 := by omega
      have s2' : SmM (11 + 69621 * a + 13) 48271 := smM_of (by omega) (by omega)
      simp [b_Ldraw_de5b, hg0, -getElem?_pos, -getElem?_neg, List.getElem?_cons_zero, List.getElem?_cons_succ, m0, mm, r0, r1, s1, s2, s2', s3, s4, s5, s6, hl, hl2, h3]
      exact pen1 _ hg
end Lw
end

section
namespace Lw
open PySem DL
theorem cut63 {ns : List Int} (h : ns.length ≤ 63) : cutD ns none (some 63) = ns := by
  have : sIxD ns.length ns.length (some 63) = ns.length := by
    unfold sIxD
    simp
    omega
  unfold cutD
  rw [this]
  simp [sIxD]
theorem pen_ok {ns : List Int} (h : ns.length ≤ 63) : Oks sem_Lpen_3d2f [.fz (.dict ((.none, .none) :: ns.map fun n => (.int n, .none)))] fun v ys => ∃ p, v = .ok (.new (.lst p)) ∧ ys = [.fz (.dict ((.none, .none) :: ns.map fun n => (.int n, .none)))] ∧ Pen 0 p := by
  refine oks_def rfl ?_
  simp [b_Lpen_3d2f, -getElem?_pos, -getElem?_neg, List.getElem?_cons_zero, List.getElem?_cons_succ, cut63 h, anyPin]
  refine lcK_map id (fun d _ => ?_) (by simp [lineD]; omega) ?_
  · simp [-getElem?_pos, -getElem?_neg, List.getElem?_cons_zero, List.getElem?_cons_succ]
  · simp
    exact ⟨ns, 0, 0, rfl, by omega, by omega, by omega, h⟩
end Lw
end

section
namespace Lw
open PySem DL
def tieD (t : Int × Int) : D := .tuple [.int t.1, .int t.2]
def webD (m : Int) (ts : List (Int × Int)) : D := .tuple [.int m, .tuple (ts.map tieD)]
def TiesOk (m : Int) (ts : List (Int × Int)) : Prop := ∀ t ∈ ts, (0 ≤ t.1 ∧ t.1 < m) ∧ 0 ≤ t.2 ∧ t.2 < m
structure Web (N T : Nat) (m : Int) (ts : List (Int × Int)) : Prop where
  m1 : 1 ≤ m
  mN : m ≤ N
  len : ts.length ≤ T
  ok : TiesOk m ts
/-- the slots in the loop of _law_web -/
def WebI (n : Nat) (pl ti m way ct : Int) (k : Nat) (r : Ro) : Prop := ∃ p ts x7 x8 x9, r = [.own true (.lst p), .frz false (.int pl), .frz false (.int ti), .frz false (.int m), .frz false (.int way), .frz false (.int ct), .own false (.lst (ts.map tieD)), x7, x8, x9]
  ∧ Pen (n + 2 * k) p ∧ ts.length = k ∧ TiesOk m ts ∧ Fr x7 ∧ Fr x8 ∧ Fr x9
theorem TiesOk.snoc {m : Int} {ts : List (Int × Int)} {t : Int × Int} (h : TiesOk m ts) (ht : (0 ≤ t.1 ∧ t.1 < m) ∧ 0 ≤ t.2 ∧ t.2 < m) : TiesOk m (ts ++ [t]) := fun u hu => by
  rcases List.mem_append.mp hu with h1 | h1
  · exact h u h1
  · rw [List.mem_singleton.mp h1]; exact ht
noncomputable def webBody : S := sSeq (sPar 8 9 (mCall sem_Ldraw_de5b [(oS 0), (oS 3)]) (mCall sem_Ldraw_de5b [(oS 0), (oS 3)]))
    (sSeq (sIf (mTst (mOp gEq [(oS 4), (oE (mC (.int 1)))])) (sPar 8 9 (mOp gMod [(oS 7), (oS 3)]) (mOp gMod [(oE (mOp gAdd [(oS 7), (oE (mC (.int 1)))])), (oS 3)])) sNx)
    (sSeq (sIf (mTst (mOp gEq [(oS 4), (oE (mC (.int 2)))])) (sSet 8 (mC (.int 0))) sNx)
    (sSeq (sIf (mTst (mOp gEq [(oS 4), (oE (mC (.int 3)))])) (sSet 9 (mOp gAdd [(oE (mOp gMod [(oS 8), (oE (mC (.int 2)))])), (oE (mOp gMul [(oE (mOp gDiv [(oS 9), (oE (mC (.int 2)))])), (oE (mC (.int 2)))]))])) sNx)
    (sSeq (sIf (mAnd (mTst (mOp gEq [(oS 4), (oE (mC (.int 4)))])) (mTst (mOp gEq [(oE (mOp gMod [(oS 9), (oE (mC (.int 2)))])), (oE (mC (.int 0)))]))) (sSet 9 (mRd 8)) sNx)
    (sDrop (mMut gAppend 6 [(oE (mOp gTup [(oE (mRd 8)), (oE (mOp gMin2 [(oS 9), (oE (mOp gSub [(oS 3), (oE (mC (.int 1)))]))]))]))]))))))
set_option maxHeartbeats 4000000 in
theorem web_body {n : Nat} {pl ti m way ct : Int} {Q : SO → Ro → Prop} (hn : n ≤ 100000) (hm : 1 ≤ m ∧ m ≤ 1000) (hw : 0 ≤ way ∧ way < 6) {k : Nat} {r : Ro} (hk : k ≤ 1000) (h : WebI n pl ti m way ct k r) :
    W (setN 7 (.int k)) r (nxP webBody (loopP (WebI n pl ti m way ct (k + 1)) Q)) := by
  obtain ⟨p, ts, x7, x8, x9, rfl, hp, hl, ht, h7, h8, h9⟩ := h
  obtain ⟨o1, y1, e1, a, p1, rfl, rfl, a0, a1, hp1⟩ := draw_ok hp (by omega) (m := m) (by omega)
  obtain ⟨o2, y2, e2, b, p2, rfl, rfl, b0, b1, hp2⟩ := draw_ok hp1 (by omega) (m := m) (by omega)
  have hp3 : Pen (n + 2 * (k + 1)) p2 := hp2
  have m0 : 0 < m := by omega
  have lb : (lineD : Nat) = 16777216 := rfl
  have hk2 : ts.length < lineD := by unfold lineD; omega
  have fin : ∀ a b : Int, 0 ≤ a → a < m → 0 ≤ b → WebI n pl ti m way ct (k + 1) [.own true (.lst p2), .frz false (.int pl), .frz false (.int ti), .frz false (.int m), .frz false (.int way), .frz false (.int ct), .own false (.lst (ts.map tieD ++ [.tuple [.int a, .int (if m - 1 < b then m - 1 else b)]])), .frz false (.int k), .frz false (.int a), .frz false (.int b)] := fun a b h1 h2 h3 =>
    ⟨p2, ts ++ [(a, if m - 1 < b then m - 1 else b)], .frz false (.int k), .frz false (.int a), .frz false (.int b), by simp [tieD], hp3, by simp [hl], ht.snoc ⟨⟨h1, h2⟩, by dsimp only; split <;> omega, by dsimp only; split <;> omega⟩, .frz, .frz, .frz⟩
  have s1 : SmD 2 := smD_of (by omega)
  have s2 : SmM (b / 2) 2 := smM_of (by omega) (by omega)
  have ways : way = 0 ∨ way = 1 ∨ way = 2 ∨ way = 3 ∨ way = 4 ∨ way = 5 := by omega
  rcases ways with rfl | rfl | rfl | rfl | rfl | rfl
  · simp [webBody, -getElem?_pos, -getElem?_neg, List.getElem?_cons_zero, List.getElem?_cons_succ, h7.pin, h8.pin, h9.pin, h7.al, h8.al, h9.al, e1, e2, m0, hk2]
    exact fin a b a0 a1 b0
  · simp [webBody, -getElem?_pos, -getElem?_neg, List.getElem?_cons_zero, List.getElem?_cons_succ, h7.pin, h8.pin, h9.pin, h7.al, h8.al, h9.al, e1, e2, m0, hk2]
    exact fin (k % m) ((k + 1) % m) (Int.emod_nonneg _ (by omega)) (Int.emod_lt_of_pos _ m0) (Int.emod_nonneg _ (by omega))
  · simp [webBody, -getElem?_pos, -getElem?_neg, List.getElem?_cons_zero, List.getElem?_cons_succ, h7.pin, h8.pin, h9.pin, h7.al, h8.al, h9.al, e1, e2, m0, hk2]
    exact fin 0 b (by omega) (by omega) b0
  · simp [webBody, -getElem?_pos, -getElem?_neg, List.getElem?_cons_zero, List.getElem?_cons_succ, h7.pin, h8.pin, h9.pin, h7.al, h8.al, h9.al, e1, e2, m0, hk2, s1, s2]
    exact fin a (a % 2 + b / 2 * 2) a0 a1 (by omega)
  · by_cases hb : b % 2 = 0
    · simp [webBody, -getElem?_pos, -getElem?_neg, List.getElem?_cons_zero, List.getElem?_cons_succ, h7.pin, h8.pin, h9.pin, h7.al, h8.al, h9.al, e1, e2, m0, hk2, hb]
      exact fin a a a0 a1 a0
    · simp [webBody, -getElem?_pos, -getElem?_neg, List.getElem?_cons_zero, List.getElem?_cons_succ, h7.pin, h8.pin, h9.pin, h7.al, h8.al, h9.al, e1, e2, m0, hk2, hb]
      exact fin a b a0 a1 b0
  · simp [webBody, -getElem?_pos, -getElem?_neg, List.getElem?_cons_zero, List.getElem?_cons_succ, h7.pin, h8.pin, h9.pin, h7.al, h8.al, h9.al, e1, e2, m0, hk2]
    exact fin a b a0 a1 b0
end Lw
end

section
namespace Lw
open PySem DL
theorem web_tail {n : Nat} {pl ti m way ct : Int} {x7 x8 x9 : Sl} {p p0 : List D} (hn : n ≤ 90000) (hm : 1 ≤ m ∧ m ≤ 1000) (hw : 0 ≤ way ∧ way < 6) (hc : 0 ≤ ct ∧ ct ≤ 1000) (hp : Pen n p) (h7 : Fr x7) (h8 : Fr x8) (h9 : Fr x9)
    {P : EO RV → List Rs → Prop} (hP : ∀ ts p', ts.length = ct → TiesOk m ts → Pen (n + 2 * ct.toNat) p' → P (.ok (.val (webD m ts))) [.ow (.lst p'), .fz (.int pl), .fz (.int ti)]) :
    W (sFor (mOpL gRng1 [(oS 5)]) (setN 7) webBody) [.own true (.lst p), .frz false (.int pl), .frz false (.int ti), .frz false (.int m), .frz false (.int way), .frz false (.int ct), .own false (.lst []), x7, x8, x9]
      (thenP (sRet (mOp gTup [(oE (mRd 3)), (oE (mOp gTuple [(oS 6)]))])) (retP [.ow (.lst p0), .fz (.int pl), .fz (.int ti)] P)) := by
  have o1 : -4611686018427387904 ≤ ct := by omega
  have o2 : ct < 4611686018427387904 := by omega
  simp [-getElem?_pos, -getElem?_neg, List.getElem?_cons_zero, List.getElem?_cons_succ, o1, o2]
  refine forS_inv (WebI n pl ti m way ct) (rng 0 ct) 0 _ ?_ (fun k d r hd h => ?_) (fun r h => ?_)
  · exact ⟨p, [], x7, x8, x9, rfl, hp, rfl, fun _ h => (nomatch h), h7, h8, h9⟩
  · obtain ⟨rfl, hk⟩ := rng0_get hd
    rw [Nat.zero_add] at h ⊢
    exact web_body (by omega) hm hw (by omega) h
  · obtain ⟨p', ts, x7, x8, x9, rfl, hp, hl, ht, h7, h8, h9⟩ := h
    rw [rng0_len] at hl hp
    rw [Nat.zero_add] at hl hp
    have := hP ts p' (by omega) ht hp
    simp [-getElem?_pos, -getElem?_neg, List.getElem?_cons_zero, List.getElem?_cons_succ]
    exact this
set_option maxHeartbeats 4000000 in
theorem web_ok {n : Nat} {pl ti : Int} {p : List D} (hp : Pen n p) (hn : n ≤ 80000) (hpl : 1 ≤ pl ∧ pl ≤ 1000) (hti : 0 ≤ ti ∧ ti ≤ 999) :
    Oks sem_Lweb_0350 [.ow (.lst p), .fz (.int pl), .fz (.int ti)] fun v ys => ∃ m ts p', v = .ok (.val (webD m ts)) ∧ ys = [.ow (.lst p'), .fz (.int pl), .fz (.int ti)] ∧ Web pl.toNat ti.toNat m ts ∧ Pen (n + 2003) p' := by
  obtain ⟨o1, y1, e1, a, p1, rfl, rfl, a0, a1, hp1⟩ := draw_ok hp (by omega) (m := pl) (by omega)
  obtain ⟨o2, y2, e2, w, p2, rfl, rfl, w0, w1, hp2⟩ := draw_ok hp1 (by omega) (m := 6) (by omega)
  obtain ⟨o3, y3, e3, c, p3, rfl, rfl, c0, c1, hp3⟩ := draw_ok hp2 (by omega) (m := ti + 1) (by omega)
  have mono : ∀ {a b : Nat} {q : List D}, a ≤ b → Pen a q → Pen b q := fun h ⟨cs, a, g, e, h1, h2, h3, h4⟩ => ⟨cs, a, g, e, h1, by omega, h3, h4⟩
  refine oks_def rfl ?_
  by_cases hw : w = 5
  · subst hw
    simp [b_Lweb_0350, -W_for, -getElem?_pos, -getElem?_neg, List.getElem?_cons_zero, List.getElem?_cons_succ, e1, e2, e3]
    refine web_tail (n := n + 3) (by omega) (by omega) (by omega) (by omega) hp3 .non .non .non fun ts p' h1 h2 h3 => ?_
    exact ⟨pl, ts, rfl, p', rfl, ⟨by omega, by omega, by omega, h2⟩, mono (by omega) h3⟩
  · simp [b_Lweb_0350, -W_for, -getElem?_pos, -getElem?_neg, List.getElem?_cons_zero, List.getElem?_cons_succ, e1, e2, e3, hw]
    refine web_tail (n := n + 3) (by omega) (by omega) (by omega) (by omega) hp3 .non .non .non fun ts p' h1 h2 h3 => ?_
    exact ⟨1 + a, ts, rfl, p', rfl, ⟨by omega, by omega, by omega, h2⟩, mono (by omega) h3⟩
end Lw
end

section
namespace Lw
open PySem DL
def rowsD (rows : List (List Int)) : List (List D) := rows.map fun row => row.map .int
def orderD (rows : List (List Int)) : D := .tuple (rows.map fun row => .tuple (row.map .int))
/-- the place of an end -/
def plc (ts : List (Int × Int)) (e : Nat) : Int := match ts[e / 2]? with
  | some t => if e % 2 = 0 then t.1 else t.2
  | none => -1
/-- a row as far as the ends below k go -/
structure RowN (ts : List (Int × Int)) (k q : Nat) (row : List Int) : Prop where
  nd : row.Nodup
  mem : ∀ e : Int, e ∈ row ↔ 0 ≤ e ∧ e < k ∧ plc ts e.toNat = q
  hd : ∀ x xs, row = x :: xs → ∀ y ∈ xs, x < y
  len : row.length ≤ k
structure OrdN (m : Int) (ts : List (Int × Int)) (k : Nat) (rows : List (List Int)) : Prop where
  len : rows.length = m.toNat
  row : ∀ q row, rows[q]? = some row → RowN ts k q row
theorem RowN.ins {ts : List (Int × Int)} {k q i : Nat} {row : List Int} (h : RowN ts k q row) (hq : plc ts k = q) (hi : i ≤ row.length) (h1 : row ≠ [] → 1 ≤ i) : RowN ts (k + 1) q (row.take i ++ [(k : Int)] ++ row.drop i) := by
  have hperm : (row.take i ++ [(k : Int)] ++ row.drop i).Perm ((k : Int) :: row) := by
    refine (List.Perm.append_right _ (List.perm_append_comm)).trans ?_
    simp
  have hk : (k : Int) ∉ row := fun hm => by have := ((h.mem k).mp hm).2.1; omega
  refine ⟨hperm.nodup_iff.mpr (List.nodup_cons.mpr ⟨hk, h.nd⟩), fun e => ?_, fun x xs e y hy => ?_, ?_⟩
  · rw [hperm.mem_iff, List.mem_cons, h.mem]
    constructor
    · rintro (rfl | ⟨a, b, c⟩)
      · exact ⟨by omega, by omega, by simpa using hq⟩
      · exact ⟨a, by omega, c⟩
    · rintro ⟨a, b, c⟩
      by_cases he : e = k
      · exact .inl he
      · exact .inr ⟨a, by omega, c⟩
  · cases row with
    | nil =>
      simp at e
      rw [e.2] at hy
      cases hy
    | cons z zs =>
      obtain ⟨i, rfl⟩ : ∃ j, i = j + 1 := ⟨i - 1, by have := h1 (by simp); omega⟩
      simp at e
      obtain ⟨rfl, rfl⟩ := e
      rcases List.mem_append.mp hy with hy | hy
      · exact h.hd z zs rfl y (List.mem_of_mem_take hy)
      · rcases List.mem_cons.mp hy with rfl | hy
        · exact ((h.mem z).mp (List.mem_cons_self ..)).2.1
        · exact h.hd z zs rfl y (List.mem_of_mem_drop hy)
  · have := hperm.length_eq
    rw [this]
    simp
    exact h.len
theorem RowN.other {ts : List (Int × Int)} {k q : Nat} {row : List Int} (h : RowN ts k q row) (hq : plc ts k ≠ q) : RowN ts (k + 1) q row := by
  refine ⟨h.nd, fun e => ?_, h.hd, Nat.le_succ_of_le h.len⟩
  rw [h.mem]
  constructor
  · rintro ⟨a, b, c⟩
    exact ⟨a, by omega, c⟩
  · rintro ⟨a, b, c⟩
    by_cases he : e = k
    · subst he; exact absurd (by simpa using c) hq
    · exact ⟨a, by omega, c⟩
theorem OrdN.ins {m : Int} {ts : List (Int × Int)} {k q i : Nat} {rows : List (List Int)} {row : List Int} (h : OrdN m ts k rows) (e : rows[q]? = some row) (hq : plc ts k = q) (hi : i ≤ row.length) (h1 : row ≠ [] → 1 ≤ i) : OrdN m ts (k + 1) (rows.set q (row.take i ++ [(k : Int)] ++ row.drop i)) := by
  refine ⟨by rw [List.length_set]; exact h.len, fun q2 row2 e2 => ?_⟩
  by_cases hqq : q = q2
  · subst hqq
    rw [List.getElem?_set_self (List.getElem?_eq_some_iff.mp e).1] at e2
    cases e2
    exact (h.row _ _ e).ins hq hi h1
  · rw [List.getElem?_set_ne hqq] at e2
    exact (h.row _ _ e2).other (by rw [hq]; exact_mod_cast hqq)
def OrdI (n : Nat) (m : Int) (ts : List (Int × Int)) (k : Nat) (r : Ro) : Prop := ∃ p rows x3 x4 x5, r = [.own true (.lst p), .frz false (webD m ts), .own false (.ll (rowsD rows)), x3, x4, x5]
  ∧ Pen (n + k) p ∧ OrdN m ts k rows ∧ Fr x3 ∧ putSl.pinnedB x4 = false ∧ alB 0 x4 = true ∧ Fr x5
noncomputable def ordBody : S := (sSeq (sAl 4 2 (oE (mOp gIx [(oE (mOp gIx [(oE (mOp gIx [(oS 1), (oE (mC (.int 1)))])), (oE (mOp gDiv [(oS 3), (oE (mC (.int 2)))]))])), (oE (mOp gMod [(oS 3), (oE (mC (.int 2)))]))])))
    (sDrop (mMut gInsert 4 [(oE (mOp gMin2 [(oE (mOp gLen [(oS 4)])), (oE (mOp gAdd [(oE (mC (.int 1))), (oE (mCall sem_Ldraw_de5b [(oS 0), (oE (mOp gMax2 [(oE (mC (.int 1))), (oE (mOp gLen [(oS 4)]))]))]))]))])), (oE (mRd 3))])))
theorem plc_get {ts : List (Int × Int)} {k : Nat} (hk : k < 2 * ts.length) : ∃ t, t ∈ ts ∧ ixP (ts.map tieD) ((k : Int) / 2) = some (tieD t) ∧ ixP [.int t.1, .int t.2] ((k : Int) % 2) = some (.int (plc ts k)) ∧ (plc ts k = t.1 ∨ plc ts k = t.2) := by
  have hk2 : k / 2 < ts.length := by omega
  have hg : ts[k / 2]? = some ts[k / 2] := List.getElem?_eq_getElem hk2
  refine ⟨ts[k / 2], List.getElem_mem hk2, ?_, ?_, ?_⟩
  · have := ixP_nat (xs := ts.map tieD) (k := k / 2) (d := tieD ts[k / 2]) (by rw [List.getElem?_map, hg]; rfl)
    exact_mod_cast this
  · unfold plc
    rw [hg]
    by_cases h : k % 2 = 0
    · rw [show (k : Int) % 2 = 0 by omega]
      simp [h]
    · rw [show (k : Int) % 2 = 1 by omega]
      simp [h]
  · unfold plc
    rw [hg]
    dsimp only
    split
    · exact .inl rfl
    · exact .inr rfl
set_option maxHeartbeats 4000000 in
theorem ord_body {n k : Nat} {m : Int} {ts : List (Int × Int)} {r : Ro} {Q : SO → Ro → Prop} (hn : n + k ≤ 900000) (hk1 : k ≤ 100000) (hk : k < 2 * ts.length) (ht : TiesOk m ts) (h : OrdI n m ts k r) :
    W (setN 3 (.int k)) r (nxP ordBody (loopP (OrdI n m ts (k + 1)) Q)) := by
  obtain ⟨p, rows, x3, x4, x5, rfl, hp, ho, h3, h4, h4a, h5⟩ := h
  obtain ⟨t, ht1, hi1, hi2, hpl⟩ := plc_get hk
  have htk := ht t ht1
  obtain ⟨q, hq⟩ : ∃ q : Nat, plc ts k = q := ⟨(plc ts k).toNat, by omega⟩
  have hqm : q < rows.length := by rw [ho.len]; omega
  have hix : ixD (rowsD rows).length (q : Int) = some q := ixD_nat (by simpa [rowsD] using hqm)
  obtain ⟨row, hrow⟩ : ∃ row, rows[q]? = some row := ⟨_, List.getElem?_eq_getElem hqm⟩
  have hrow2 : (rowsD rows)[q]? = some (row.map .int) := by unfold rowsD; rw [List.getElem?_map, hrow]; rfl
  have hlen := (ho.row q row hrow).len
  obtain ⟨mx, hmx, mx1, mx2⟩ : ∃ mx : Int, gMax2 [.fz (.int 1), .fz (.int (row.length : Int))] = some (.val (.int mx)) ∧ 1 ≤ mx ∧ mx ≤ 1000000 := ⟨_, gMax2_ii, by split <;> omega, by split <;> omega⟩
  obtain ⟨o1, y1, e1, d, p1, rfl, rfl, d0, d1, hp1⟩ := draw_ok hp (by omega) (m := mx) (by omega)
  obtain ⟨i, hmn, i0, i1, i2⟩ : ∃ i : Nat, gMin2 [.fz (.int (row.length : Int)), .fz (.int (1 + d))] = some (.val (.int (i : Int))) ∧ i ≤ row.length ∧ (row ≠ [] → 1 ≤ i) ∧ (i : Int) < 9223372036854775808 := by
    refine ⟨(if 1 + d < row.length then 1 + d else (row.length : Int)).toNat, ?_, ?_, ?_, ?_⟩
    · rw [gMin2_ii, Int.toNat_of_nonneg]
      split <;> omega
    · split <;> omega
    · intro hne
      have : row.length ≠ 0 := by simpa using hne
      split <;> omega
    · split <;> omega
  have lb : (lineD : Nat) = 16777216 := rfl
  have hl2 : row.length < lineD := by omega
  have s1 : SmD 2 := smD_of (by omega)
  have fin : OrdI n m ts (k + 1) [.own true (.lst p1), .frz false (webD m ts), .own false (.ll ((rowsD rows).set q (List.take i (row.map .int) ++ .int k :: List.drop i (row.map .int)))), .frz false (.int k), .al 2 q, x5] :=
    ⟨p1, rows.set q (row.take i ++ [(k : Int)] ++ row.drop i), .frz false (.int k), .al 2 q, x5, by simp [rowsD, List.map_set, List.map_take, List.map_drop], hp1, ho.ins hrow hq i0 i1, .frz, rfl, rfl, h5⟩
  unfold ordBody
  simp [-getElem?_pos, -getElem?_neg, List.getElem?_cons_zero, List.getElem?_cons_succ, h3.pin]
  refine W_al (b := false) (rows := rowsD rows) rfl ?_
  simp [-getElem?_pos, -getElem?_neg, List.getElem?_cons_zero, List.getElem?_cons_succ, webD, hi1, tieD, hi2, hq, hix, h4, s1]
  simp [-getElem?_pos, -getElem?_neg, List.getElem?_cons_zero, List.getElem?_cons_succ, hrow2, hmx, hmn, e1, -gMax2_ii, -gMin2_ii, h3.al, h4a, h5.al, hl2, i2]
  exact fin
end Lw
end

section
namespace Lw
open PySem DL
theorem ordN0 {m : Int} {ts : List (Int × Int)} (hm : 0 ≤ m) : OrdN m ts 0 (List.replicate m.toNat []) := by
  refine ⟨by simp, fun q row e => ?_⟩
  obtain ⟨h1, h2⟩ := List.getElem?_eq_some_iff.mp e
  simp at h2
  subst h2
  exact ⟨List.nodup_nil, fun e => (by simp; omega), fun x xs h => (by cases h), by simp⟩
theorem rng_map_nil {m : Int} : (rng 0 m).map (fun _ => ([] : List D)) = rowsD (List.replicate m.toNat []) := by
  simp [rng, rowsD]
  apply List.ext_getElem <;> simp
def tupOf : D → D
  | .list xs => .tuple xs
  | d => d
set_option maxHeartbeats 4000000 in
theorem order_ok {n : Nat} {m : Int} {ts : List (Int × Int)} {p : List D} (hp : Pen n p) (hn : n ≤ 800000) (hm : 1 ≤ m ∧ m ≤ 10000) (hl : ts.length ≤ 10000) (ht : TiesOk m ts) :
    Oks sem_Lorder_8e8e [.ow (.lst p), .fz (webD m ts)] fun v ys => ∃ rows p', v = .ok (.val (orderD rows)) ∧ ys = [.ow (.lst p'), .fz (webD m ts)] ∧ OrdN m ts (2 * ts.length) rows ∧ Pen (n + 2 * ts.length) p' := by
  refine oks_def rfl ?_
  have o1 : -4611686018427387904 ≤ m := by omega
  have o2 : m < 4611686018427387904 := by omega
  have lb : (lineD : Nat) = 16777216 := rfl
  have s1 : SmM 2 (ts.length : Int) := smM_of (by omega) (by omega)
  have o3 : -4611686018427387904 ≤ 2 * (ts.length : Int) := by omega
  have o4 : 2 * (ts.length : Int) < 4611686018427387904 := by omega
  simp [b_Lorder_8e8e, -getElem?_pos, -getElem?_neg, List.getElem?_cons_zero, List.getElem?_cons_succ, webD, o1, o2, anyPin]
  refine lcLK_map (f := fun _ => []) (fun d _ => ?_) ?_ ?_
  · simp [-getElem?_pos, -getElem?_neg, List.getElem?_cons_zero, List.getElem?_cons_succ]
  · rw [rng0_len]; simp; omega
  simp [-getElem?_pos, -getElem?_neg, List.getElem?_cons_zero, List.getElem?_cons_succ, s1, o3, o4]
  refine forS_inv (OrdI n m ts) (rng 0 (2 * (ts.length : Int))) 0 _ ?_ (fun k d r hd h => ?_) (fun r h => ?_)
  · refine ⟨p, List.replicate m.toNat [], .non, .non, .non, ?_, hp, ordN0 (by omega), .non, rfl, rfl, .non⟩
    rw [← rng_map_nil]
    rfl
  · obtain ⟨rfl, hk⟩ := rng0_get hd
    rw [Nat.zero_add] at h ⊢
    exact ord_body (by omega) (by omega) (by omega) ht h
  · rw [Nat.zero_add, rng0_len, show (2 * (ts.length : Int)).toNat = 2 * ts.length by omega] at h
    obtain ⟨p', rows, x3, x4, x5, rfl, hp', ho, h3, h4, h4a, h5⟩ := h
    simp [-getElem?_pos, -getElem?_neg, List.getElem?_cons_zero, List.getElem?_cons_succ, anyPin, h4]
    refine lcK_map (f := tupOf) (fun d hd => ?_) ?_ ?_
    · obtain ⟨row, hrow, rfl⟩ := List.mem_map.mp hd
      simp [-getElem?_pos, -getElem?_neg, List.getElem?_cons_zero, List.getElem?_cons_succ, tupOf]
    · have := ho.len
      simp [rowsD]
      omega
    · simp [-getElem?_pos, -getElem?_neg, List.getElem?_cons_zero, List.getElem?_cons_succ]
      refine ⟨rows, ?_, ho, hp'⟩
      simp [orderD, rowsD, tupOf, Function.comp_def]
end Lw
end

section
namespace Lw
open PySem DL
/-- the row's next one behind an end -/
def nextIn (row : List Int) (e : Int) : Option Int := (row.findIdx? (· == e)).bind fun k => row[(k + 1) % row.length]?
def nxt (ts : List (Int × Int)) (rows : List (List Int)) (e : Nat) : Option Int := (rows[(plc ts e).toNat]?).bind fun row => nextIn row e
def ptn (e : Nat) : Nat := if e % 2 = 0 then e + 1 else e - 1
theorem findIdx_get {row : List Int} {k : Nat} {e : Int} (h : row[k]? = some e) (nd : row.Nodup) : row.findIdx? (· == e) = some k := by
  obtain ⟨h1, h2⟩ := List.getElem?_eq_some_iff.mp h
  rw [List.findIdx?_eq_some_iff_getElem]
  refine ⟨h1, by simp [h2], fun j hj => ?_⟩
  have : row[j] ≠ row[k] := List.pairwise_iff_getElem.mp nd j k (by omega) h1 hj
  rw [h2] at this
  simpa using this
theorem nextIn_get {row : List Int} {k : Nat} {e : Int} (h : row[k]? = some e) (nd : row.Nodup) : nextIn row e = row[(k + 1) % row.length]? := by
  unfold nextIn
  rw [findIdx_get h nd]
  rfl
theorem place_ok {m : Int} {ts : List (Int × Int)} {k : Nat} (hk : k < 2 * ts.length) : Oks sem_place_of_8c4c [.fz (webD m ts), .fz (.int k)] fun v ys => v = .ok (.val (.int (plc ts k))) ∧ ys = [.fz (webD m ts), .fz (.int k)] := by
  obtain ⟨t, ht1, hi1, hi2, hpl⟩ := plc_get hk
  have s1 : SmD 2 := smD_of (by omega)
  refine oks_def rfl ?_
  simp [b_place_of_8c4c, -getElem?_pos, -getElem?_neg, List.getElem?_cons_zero, List.getElem?_cons_succ, webD, hi1, tieD, hi2, s1]
theorem orderD_get {rows : List (List Int)} {q : Nat} {row : List Int} (h : rows[q]? = some row) : ixP (rows.map fun row => PyData.tuple (row.map .int)) (q : Int) = some (.tuple (row.map .int)) := ixP_nat (by rw [List.getElem?_map, h]; rfl)
/-- where an end stands -/
theorem OrdN.at {m : Int} {ts : List (Int × Int)} {rows : List (List Int)} (ho : OrdN m ts (2 * ts.length) rows) (ht : TiesOk m ts) {k : Nat} (hk : k < 2 * ts.length) :
    ∃ q row j y, plc ts k = (q : Nat) ∧ rows[q]? = some row ∧ row[j]? = some (k : Int) ∧ row[(j + 1) % row.length]? = some y ∧ nxt ts rows k = some y ∧ row.findIdx? (· == (k : Int)) = some j ∧ 0 < row.length ∧ row.length ≤ 2 * ts.length ∧ ∃ y', y = (y' : Nat) ∧ y' < 2 * ts.length := by
  obtain ⟨t, ht1, hi1, hi2, hpl⟩ := plc_get hk
  have htk := ht t ht1
  obtain ⟨q, hq⟩ : ∃ q : Nat, plc ts k = q := ⟨(plc ts k).toNat, by omega⟩
  have hqm : q < rows.length := by rw [ho.len]; omega
  obtain ⟨row, hrow⟩ : ∃ row, rows[q]? = some row := ⟨_, List.getElem?_eq_getElem hqm⟩
  have hr := ho.row q row hrow
  have hm : (k : Int) ∈ row := (hr.mem k).mpr ⟨by omega, by omega, by simpa using hq⟩
  obtain ⟨j, hj, hj2⟩ := List.mem_iff_getElem.mp hm
  have hj3 : row[j]? = some (k : Int) := by rw [List.getElem?_eq_getElem hj, hj2]
  have hmod : (j + 1) % row.length < row.length := Nat.mod_lt _ (by omega)
  have hy : row[(j + 1) % row.length]? = some row[(j + 1) % row.length] := List.getElem?_eq_getElem hmod
  have hym := (hr.mem _).mp (List.getElem_mem hmod)
  refine ⟨q, row, j, _, hq, hrow, hj3, hy, ?_, findIdx_get hj3 hr.nd, by omega, hr.len, (row[(j + 1) % row.length]).toNat, by omega, by omega⟩
  unfold nxt
  rw [hq, Int.toNat_natCast, hrow]
  show nextIn row k = _
  rw [nextIn_get hj3 hr.nd, hy]
/-- the others turned about -/
def turn (row : List Int) : List Int := row.take 1 ++ (row.drop 1).reverse
theorem RowN.turn {ts : List (Int × Int)} {k q : Nat} {row : List Int} (h : RowN ts k q row) : RowN ts k q (turn row) := by
  have hperm : (Lw.turn row).Perm row := by
    unfold Lw.turn
    refine (List.Perm.append_left _ (List.reverse_perm _)).trans ?_
    rw [List.take_append_drop]
  refine ⟨hperm.nodup_iff.mpr h.nd, fun e => by rw [hperm.mem_iff, h.mem], fun x xs e y hy => ?_, by rw [hperm.length_eq]; exact h.len⟩
  cases row with
  | nil => cases e
  | cons z zs =>
    unfold Lw.turn at e
    simp at e
    obtain ⟨rfl, rfl⟩ := e
    exact h.hd z zs rfl y (List.mem_reverse.mp hy)
theorem OrdN.turn {m : Int} {ts : List (Int × Int)} {k : Nat} {rows : List (List Int)} (h : OrdN m ts k rows) : OrdN m ts k (rows.map Lw.turn) := by
  refine ⟨by rw [List.length_map]; exact h.len, fun q row e => ?_⟩
  rw [List.getElem?_map] at e
  cases hr : rows[q]? with
  | none => rw [hr] at e; cases e
  | some r0 => rw [hr] at e; cases e; exact (h.row _ _ hr).turn
end Lw
end

section
namespace Lw
open PySem DL
/-- a dict from ends to the next ones, so far -/
structure BehN (ts : List (Int × Int)) (rows : List (List Int)) (q j c : Nat) (kvs : List (Ky × D)) : Prop where
  len : kvs.length ≤ c
  mem : ∀ q' row, rows[q']? = some row → ∀ i y, row[i]? = some y → (q' < q ∨ (q' = q ∧ i < j)) → ∀ x, row[(i + row.length - 1) % row.length]? = some x → valD kvs (.inl x) = some (.int y)
theorem BehN.put {m : Int} {ts : List (Int × Int)} {rows : List (List Int)} {q j c n : Nat} {kvs : List (Ky × D)} {row : List Int} {x y : Int} (ho : OrdN m ts n rows) (h : BehN ts rows q j c kvs) (hr : rows[q]? = some row) (hy : row[j]? = some y) (hx : row[(j + row.length - 1) % row.length]? = some x) : BehN ts rows q (j + 1) (c + 1) (putD kvs (.inl x) (.int y)) := by
  have hj := (List.getElem?_eq_some_iff.mp hy).1
  refine ⟨Nat.le_trans putD_len (by have := h.len; omega), fun q' row' hr' i y' hy' hc x' hx' => ?_⟩
  rw [valD_put]
  have hi := (List.getElem?_eq_some_iff.mp hy').1
  have pm : ∀ i l : Nat, i < l → (i + l - 1) % l < l := fun i l h => Nat.mod_lt _ (by omega)
  by_cases hxx : x' = x
  · subst hxx
    rw [if_pos rfl]
    have hm1 := ((ho.row _ _ hr).mem x').mp (List.mem_of_getElem? hx)
    have hm2 := ((ho.row _ _ hr').mem x').mp (List.mem_of_getElem? hx')
    have hqq : q = q' := by have := hm1.2.2.symm.trans hm2.2.2; exact_mod_cast this
    subst hqq
    rw [hr] at hr'
    cases hr'
    have f1 := findIdx_get hx (ho.row _ _ hr).nd
    have f2 := findIdx_get hx' (ho.row _ _ hr).nd
    rw [f1] at f2
    have f3 := Option.some.inj f2
    have hij : i = j := by
      have a1 : (j + row.length - 1) % row.length = if j = 0 then row.length - 1 else j - 1 := by
        split
        · rename_i h0; subst h0; rw [Nat.zero_add]; exact Nat.mod_eq_of_lt (by omega)
        · rw [show j + row.length - 1 = (j - 1) + row.length by omega, Nat.add_mod_right]; exact Nat.mod_eq_of_lt (by omega)
      have a2 : (i + row.length - 1) % row.length = if i = 0 then row.length - 1 else i - 1 := by
        split
        · rename_i h0; subst h0; rw [Nat.zero_add]; exact Nat.mod_eq_of_lt (by omega)
        · rw [show i + row.length - 1 = (i - 1) + row.length by omega, Nat.add_mod_right]; exact Nat.mod_eq_of_lt (by omega)
      rw [a1, a2] at f3
      split at f3 <;> split at f3 <;> omega
    subst hij
    rw [hy] at hy'
    cases hy'
    rfl
  · rw [if_neg (by simpa using hxx)]
    refine h.mem q' row' hr' i y' hy' ?_ x' hx'
    rcases hc with hc | ⟨rfl, hc⟩
    · exact .inl hc
    · by_cases hij : i = j
      · subst hij
        rw [hr] at hr'
        cases hr'
        rw [hx] at hx'
        exact absurd (Option.some.inj hx').symm hxx
      · exact .inr ⟨rfl, by omega⟩
end Lw
end

section
namespace Lw
open PySem DL
end Lw
end

section
namespace Lw
open PySem DL
/-- crossings -/
structure Cr (ts : List (Int × Int)) (cs : List Int) : Prop where
  len : cs.length = ts.length
  ok : ∀ c ∈ cs, c = 0 ∨ c = 1
theorem Cr.get {ts : List (Int × Int)} {cs : List Int} (h : Cr ts cs) {k : Nat} (hk : k < 2 * ts.length) : ∃ c : Int, (c = 0 ∨ c = 1) ∧ cs[k / 2]? = some c ∧ ixP (cs.map PyData.int) ((k : Int) / 2) = some (.int c) := by
  have hl := h.len
  have hk2 : k / 2 < cs.length := by omega
  refine ⟨cs[k / 2], h.ok _ (List.getElem_mem hk2), List.getElem?_eq_getElem hk2, ?_⟩
  have := ixP_nat (xs := cs.map PyData.int) (k := k / 2) (d := .int cs[k / 2]) (by rw [List.getElem?_map, List.getElem?_eq_getElem hk2]; rfl)
  exact_mod_cast this
/-- the hand behind a tie -/
def hb (c h : Int) : Int := if c = 1 then 1 - h else h
end Lw
end

section
namespace Lw
open PySem DL
end Lw
end

section
namespace Lw
open PySem DL
/-- crossed the other way -/
theorem Cr.other {ts : List (Int × Int)} {cs : List Int} (h : Cr ts cs) : Cr ts (cs.map fun c => 1 - c) := by
  refine ⟨by rw [List.length_map]; exact h.len, fun c hc => ?_⟩
  obtain ⟨x, hx, rfl⟩ := List.mem_map.mp hc
  rcases h.ok x hx with rfl | rfl <;> simp
end Lw
end

section
namespace Lw
open PySem DL
end Lw
end

section
namespace Lw
open PySem DL
end Lw
end

section
namespace Lw
open PySem DL
/-- states: the hand behind the tie -/
def hbF (cs : List Int) (s : Nat × Int) : Int := hb (cs[s.1 / 2]?.getD 0) s.2
def bk (cs : List Int) (s : Nat × Int) : Nat × Int := (ptn s.1, 1 - hbF cs s)
/-- a state of the web -/
def St (T : Nat) (s : Nat × Int) : Prop := s.1 < 2 * T ∧ (s.2 = 0 ∨ s.2 = 1)
end Lw
end

section
namespace Lw
open PySem DL
section
variable {m : Int} {ts : List (Int × Int)} {rows : List (List Int)} {cs : List Int}
end
end Lw
end

section
namespace Lw
theorem least {P : Nat → Prop} (h : ∃ n, P n) : ∃ n, P n ∧ ∀ m, m < n → ¬ P m := by
  obtain ⟨n, hn⟩ := h
  induction n using Nat.strongRecOn with
  | ind n ih =>
    by_cases h : ∃ m, m < n ∧ P m
    · obtain ⟨m, h1, h2⟩ := h
      exact ih m h1 h2
    · exact ⟨n, hn, fun m h1 h2 => h ⟨m, h1, h2⟩⟩
section
variable {α : Type}
def itr (f : α → α) : Nat → α → α
  | 0, x => x
  | n + 1, x => f (itr f n x)
theorem itr_add (f : α → α) (a b : Nat) (x : α) : itr f (a + b) x = itr f a (itr f b x) := by
  induction a with
  | zero => rw [Nat.zero_add]; rfl
  | succ a ih => rw [Nat.succ_add]; show f _ = f _; rw [ih]
/-- a step that keeps within P, one to one, and comes back within B steps -/
structure Stp (f : α → α) (P : α → Prop) (B : Nat) : Prop where
  cl : ∀ x, P x → P (f x)
  inj : ∀ x y, P x → P y → f x = f y → x = y
  ret : ∀ x, P x → ∃ n, 1 ≤ n ∧ n ≤ B ∧ itr f n x = x
open Classical in
noncomputable def per (f : α → α) (x : α) : Nat := if h : ∃ n, 1 ≤ n ∧ itr f n x = x then Classical.choose (least h) else 0
noncomputable def orb (f : α → α) (x : α) : List α := (List.range (per f x)).map fun n => itr f n x
theorem per_spec {f : α → α} {x : α} (h : ∃ n, 1 ≤ n ∧ itr f n x = x) : 1 ≤ per f x ∧ itr f (per f x) x = x ∧ ∀ m, 1 ≤ m → m < per f x → itr f m x ≠ x := by
  unfold per
  rw [dif_pos h]
  obtain ⟨⟨h1, h2⟩, h3⟩ := Classical.choose_spec (least h)
  exact ⟨h1, h2, fun m a b c => h3 m b ⟨a, c⟩⟩
variable {f : α → α} {P : α → Prop} {B : Nat}
theorem Stp.itr (s : Stp f P B) {x : α} (hx : P x) : ∀ n, P (itr f n x)
  | 0 => hx
  | n + 1 => s.cl _ (s.itr hx n)
theorem Stp.per (s : Stp f P B) {x : α} (hx : P x) : 1 ≤ per f x ∧ Lw.itr f (Lw.per f x) x = x ∧ ∀ m, 1 ≤ m → m < Lw.per f x → Lw.itr f m x ≠ x := by
  obtain ⟨n, h1, _, h2⟩ := s.ret x hx
  exact per_spec ⟨n, h1, h2⟩
theorem Stp.itr_inj (s : Stp f P B) {x y : α} (hx : P x) (hy : P y) : ∀ n, Lw.itr f n x = Lw.itr f n y → x = y
  | 0, h => h
  | n + 1, h => s.itr_inj hx hy n (s.inj _ _ (s.itr hx n) (s.itr hy n) h)
/-- the places of a round are unlike -/
theorem Stp.apart (s : Stp f P B) {x : α} (hx : P x) {i j : Nat} (hij : i < j) (hj : j < Lw.per f x) : Lw.itr f i x ≠ Lw.itr f j x := by
  intro h
  obtain ⟨_, _, h4⟩ := s.per hx
  have e : j = i + (j - i) := by omega
  rw [e, itr_add] at h
  exact h4 (j - i) (by omega) (by omega) (s.itr_inj hx (s.itr hx _) i h).symm
theorem itr_mul {x : α} {p : Nat} (h : itr f p x = x) : ∀ k, itr f (p * k) x = x
  | 0 => rfl
  | k + 1 => by rw [Nat.mul_succ, itr_add, h, itr_mul h k]
theorem Stp.mod (s : Stp f P B) {x : α} (hx : P x) (n : Nat) : Lw.itr f n x = Lw.itr f (n % Lw.per f x) x := by
  obtain ⟨h1, h2, _⟩ := s.per hx
  have e : n = n % Lw.per f x + Lw.per f x * (n / Lw.per f x) := (Nat.mod_add_div n _).symm
  conv => lhs; rw [e, itr_add, itr_mul h2]
theorem mem_orb (s : Stp f P B) {x y : α} (hx : P x) : y ∈ orb f x ↔ ∃ n, itr f n x = y := by
  unfold orb
  rw [List.mem_map]
  constructor
  · rintro ⟨n, _, h⟩; exact ⟨n, h⟩
  · rintro ⟨n, h⟩
    refine ⟨n % per f x, List.mem_range.mpr (Nat.mod_lt _ (s.per hx).1), ?_⟩
    rw [← s.mod hx, h]
theorem orb_P (s : Stp f P B) {x y : α} (hx : P x) (h : y ∈ orb f x) : P y := by
  obtain ⟨n, rfl⟩ := (mem_orb s hx).mp h
  exact s.itr hx n
theorem orb_symm (s : Stp f P B) {x y : α} (hx : P x) (h : y ∈ orb f x) : x ∈ orb f y := by
  have hy := orb_P s hx h
  obtain ⟨n, rfl⟩ := (mem_orb s hx).mp h
  obtain ⟨h1, h2, _⟩ := s.per hx
  refine (mem_orb s hy).mpr ⟨per f x * (n + 1) - n, ?_⟩
  have : n ≤ per f x * (n + 1) := Nat.le_trans (Nat.le_succ n) (Nat.le_mul_of_pos_left _ h1)
  rw [← itr_add, Nat.sub_add_cancel this, itr_mul h2]
end
end Lw
end

section
namespace Lw
open PySem DL
section
variable {m : Int} {ts : List (Int × Int)} {rows : List (List Int)}
end
section
variable {f : Nat → Nat} {P : Nat → Prop} {B : Nat}
/-- a round's least one -/
def isLo (f : Nat → Nat) (x : Nat) : Prop := ∀ y ∈ orb f x, x ≤ y
end
end Lw
end

section
namespace Lw
open PySem DL
theorem mmOk_ints (ns : List Int) : mmOk (ns.map .int) = true := by
  unfold mmOk
  rw [all_okE_ints]
  simp [W.alike]
theorem foldl_min : ∀ (ns : List Int) (n m : Int), m ∈ n :: ns → (∀ y ∈ n :: ns, m ≤ y) → ns.foldl min n = m
  | [], n, m, h, _ => by simp at h; simp [h]
  | k :: ns, n, m, h, hle => by
    rw [List.foldl_cons]
    refine foldl_min ns (min n k) m ?_ fun y hy => ?_
    · have h1 := hle n (by simp)
      have h2 := hle k (by simp)
      rcases List.mem_cons.mp h with rfl | h
      · rw [Int.min_eq_left h2]; simp
      · rcases List.mem_cons.mp h with rfl | h
        · rw [Int.min_eq_right h1]; simp
        · exact List.mem_cons_of_mem _ h
    · rcases List.mem_cons.mp hy with rfl | hy
      · have h1 := hle n (by simp)
        have h2 := hle k (by simp)
        omega
      · exact hle y (by simp [hy])
theorem minD_of {n m : Int} {ns : List Int} (h : m ∈ n :: ns) (hle : ∀ y ∈ n :: ns, m ≤ y) : W.minD (.int n) (ns.map .int) = .int m := by
  rw [W.minD_ints, foldl_min ns n m h hle]
section
variable {m : Int} {ts : List (Int × Int)} {rows : List (List Int)}
end
end Lw
end

section
namespace Lw
open PySem DL
end Lw
end

section
namespace Lw
open PySem DL
section
variable {f : Nat → Nat} {N B : Nat}
/-- what is met ahead of the k-th -/
structure MetI (f : Nat → Nat) (N : Nat) (k c : Nat) (kvs : List (Ky × D)) : Prop where
  len : kvs.length ≤ c
  mem : ∀ y, y < N → ((valD kvs (.inl (y : Int))).isSome = true ↔ ∃ z ∈ orb f y, z < k)
theorem MetI.lo (s : Stp f (· < N) B) {k c : Nat} {kvs : List (Ky × D)} (h : MetI f N k c kvs) (hk : k < N) (hm : (valD kvs (.inl (k : Int))).isSome = false) : isLo f k := fun y hy => by
  by_cases hlt : y < k
  · have := (h.mem k hk).mpr ⟨y, hy, hlt⟩
    rw [hm] at this
    cases this
  · omega
/-- while a round is put down -/
structure MetJ (f : Nat → Nat) (N : Nat) (k j c : Nat) (kvs : List (Ky × D)) : Prop where
  len : kvs.length ≤ c + j
  mem : ∀ y, y < N → ((valD kvs (.inl (y : Int))).isSome = true ↔ (∃ z ∈ orb f y, z < k) ∨ ∃ i, i < j ∧ itr f i k = y)
theorem MetJ.start {k c : Nat} {kvs : List (Ky × D)} (h : MetI f N k c kvs) : MetJ f N k 0 c kvs := ⟨h.len, fun y hy => by rw [h.mem y hy]; simp⟩
theorem MetJ.put {k j c : Nat} {kvs : List (Ky × D)} {d : D} (h : MetJ f N k j c kvs) : MetJ f N k (j + 1) c (putD kvs (.inl ((itr f j k : Nat) : Int)) d) := by
  refine ⟨Nat.le_trans putD_len (by have := h.len; omega), fun y hy => ?_⟩
  rw [valD_put]
  by_cases e : itr f j k = y
  · subst e
    simp
    exact .inr ⟨j, by omega, rfl⟩
  · have e2 : ¬ ((Sum.inl (y : Int) : Ky) = .inl ((itr f j k : Nat) : Int)) := fun h => e (by have := Sum.inl.inj h; omega)
    rw [if_neg e2, h.mem y hy]
    constructor
    · rintro (h | ⟨i, h1, h2⟩)
      · exact .inl h
      · exact .inr ⟨i, by omega, h2⟩
    · rintro (h | ⟨i, h1, h2⟩)
      · exact .inl h
      · refine .inr ⟨i, ?_, h2⟩
        by_cases hij : i = j
        · subst hij; exact absurd h2 e
        · omega
theorem MetJ.done (s : Stp f (· < N) B) {k c : Nat} {kvs : List (Ky × D)} (hk : k < N) (h : MetJ f N k (per f k) c kvs) : MetI f N (k + 1) (c + per f k) kvs := by
  refine ⟨h.len, fun y hy => ?_⟩
  rw [h.mem y hy]
  constructor
  · rintro (⟨z, h1, h2⟩ | ⟨i, h1, h2⟩)
    · exact ⟨z, h1, by omega⟩
    · exact ⟨k, orb_symm s hk ((mem_orb s hk).mpr ⟨i, h2⟩), by omega⟩
  · rintro ⟨z, h1, h2⟩
    by_cases e : z = k
    · subst e
      have := orb_symm s hy h1
      unfold orb at this
      obtain ⟨i, h3, h4⟩ := List.mem_map.mp this
      exact .inr ⟨i, List.mem_range.mp h3, h4⟩
    · exact .inl ⟨z, h1, by omega⟩
end
section
variable {m : Int} {ts : List (Int × Int)} {rows : List (List Int)}
end
end Lw
end

section
namespace Lw
open PySem DL
section
variable {m : Int} {ts : List (Int × Int)} {rows : List (List Int)}
end
end Lw
end

section
namespace Lw
open PySem DL
section
variable {m : Int} {ts : List (Int × Int)} {rows : List (List Int)}
end
end Lw
end

section
namespace Lw
open PySem DL
/-- data of whole numbers, tuples and lists, k deep -/
def SmD : Nat → D → Prop
  | _, .int _ => True
  | k + 1, .tuple ds => ds.length ≤ 1000000 ∧ ∀ d ∈ ds, SmD k d
  | k + 1, .list ds => ds.length ≤ 1000000 ∧ ∀ d ∈ ds, SmD k d
  | _, _ => False
end Lw
end

section
namespace Lw
open PySem DL
section
variable {m : Int} {ts : List (Int × Int)} {rows : List (List Int)}
end
theorem pen_mono {a b : Nat} {q : List D} : a ≤ b → Pen a q → Pen b q := fun h ⟨cs, a, g, e, h1, h2, h3, h4⟩ => ⟨cs, a, g, e, h1, by omega, h3, h4⟩
end Lw
end

section
namespace Lw
open PySem DL
end Lw
end

section
namespace Lw
open PySem DL
@[simp] theorem gAdd_ol {xs ys : List D} : gAdd [.ow (.lst xs), .fz (.list ys)] = if xs.length + ys.length ≤ lineD then some (.new (.lst (xs ++ ys))) else none := rfl
def nm (zs : List Int) (a : Int) : Int := zs.getD a.toNat 0
theorem rng_ints (m : Int) : rng 0 m = ((List.range m.toNat).map fun k : Nat => (k : Int)).map PyData.int := by
  unfold rng
  simp
end Lw
end

section
namespace Lw
open PySem DL
theorem srt_pwI (L : List Int) : (L.mergeSort fun a b => decide (a ≤ b)).Pairwise fun a b => decide (a ≤ b) = true :=
  List.pairwise_mergeSort (fun a b c h1 h2 => by simp only [decide_eq_true_eq] at *; omega) (fun a b => by
    have := Int.le_total a b
    simpa using this) L
end Lw
end

section
namespace Lw
open PySem DL
theorem lay_all {xs : List D} (h : ∀ d ∈ xs, d.canLay0 = true) : PyData.canLayAll0 xs = true := by
  induction xs with
  | nil => simp [PyData.canLayAll0]
  | cons x xs ih => simp [PyData.canLayAll0, h x (by simp), ih fun d hd => h d (by simp [hd])]
theorem dep_all {xs : List D} {k : Nat} (h : ∀ d ∈ xs, d.depth ≤ k) : PyData.depthAll xs ≤ k := by
  induction xs with
  | nil => simp [PyData.depthAll]
  | cons x xs ih =>
    simp only [PyData.depthAll]
    exact Nat.max_le.mpr ⟨h x (by simp), ih fun d hd => h d (by simp [hd])⟩
theorem SmD.lay : ∀ {k : Nat} {d : D}, SmD k d → d.canLay0 = true ∧ d.depth ≤ k
  | k, .int _, _ => by simp [PyData.canLay0, PyData.depth]
  | k + 1, .tuple ds, h => by
    refine ⟨by simp only [PyData.canLay0]; exact lay_all fun d hd => (SmD.lay (h.2 d hd)).1, ?_⟩
    simp only [PyData.depth]
    have := dep_all (k := k) fun d hd => (SmD.lay (h.2 d hd)).2
    omega
  | k + 1, .list ds, h => by
    refine ⟨by simp only [PyData.canLay0]; exact lay_all fun d hd => (SmD.lay (h.2 d hd)).1, ?_⟩
    simp only [PyData.depth]
    have := dep_all (k := k) fun d hd => (SmD.lay (h.2 d hd)).2
    omega
  | 0, .tuple _, h => h.elim
  | 0, .list _, h => h.elim
  | 0, .none, h => h.elim
  | 0, .bool _, h => h.elim
  | 0, .str _, h => h.elim
  | 0, .dict _, h => h.elim
  | _ + 1, .none, h => h.elim
  | _ + 1, .bool _, h => h.elim
  | _ + 1, .str _, h => h.elim
  | _ + 1, .dict _, h => h.elim
theorem SmD.okD {k : Nat} {d : D} (h : SmD k d) (hk : k ≤ 40) : DL.okD d = true ∧ DL.okE d = true := by
  obtain ⟨a, b⟩ := h.lay
  unfold DL.okD DL.okE
  simp [a]
  omega
section
variable {m : Int} {ts : List (Int × Int)} {rows : List (List Int)}
end
end Lw
end

section
namespace Lw
open PySem DL
section
variable {m : Int} {ts : List (Int × Int)} {rows : List (List Int)}
end
end Lw
end

section
namespace Lw
open PySem DL
def rl (lo hi x : Int) : Int := if x = hi then lo else x
def mkAt (ms : List Int) (a : Int) : Int := ms.getD a.toNat 0
def mstep (ms : List Int) (t : Int × Int) : List Int :=
  ms.map (rl (if mkAt ms t.2 < mkAt ms t.1 then mkAt ms t.2 else mkAt ms t.1) (if mkAt ms t.2 > mkAt ms t.1 then mkAt ms t.2 else mkAt ms t.1))
def rangeI (m : Int) : List Int := (List.range m.toNat).map fun k : Nat => (k : Int)
def marks (m : Int) (ts : List (Int × Int)) : List Int := ts.foldl mstep (rangeI m)
theorem mkAt_ok {ms : List Int} {a : Int} (h0 : 0 ≤ a) (h1 : a < ms.length) : ixP (ms.map PyData.int) a = some (.int (mkAt ms a)) ∧ ms[a.toNat]? = some (mkAt ms a) := by
  have hg : ms[a.toNat]? = some (mkAt ms a) := by
    unfold mkAt
    rw [List.getD_eq_getElem?_getD, List.getElem?_eq_getElem (by omega)]
    rfl
  exact ⟨ixP_pos h0 (by rw [List.getElem?_map, hg]; rfl), hg⟩
/-- the lists of places with one mark, by the marks -/
def grp (ms : List Int) (f : Int) : List Int := ((List.range ms.length).filter fun p : Nat => mkAt ms (p : Int) == f).map fun p : Nat => (p : Int)
end Lw
end

section
namespace Lw
open PySem DL
theorem put_keys (kvs : List (Ky × List D)) (k : Ky) (d : D) : (putL kvs k d).map (·.1) = if (kvs.any fun kv => decide (kv.1 = k)) = true then kvs.map (·.1) else kvs.map (·.1) ++ [k] := by
  unfold putL
  split
  · rw [List.map_map]
    refine List.map_congr_left fun kv _ => ?_
    simp only [Function.comp]
    split <;> rfl
  · simp
theorem look_map (f n : Int) (d : D) : ∀ kvs : List (Ky × List D), (n = f → (kvs.any fun kv => decide (kv.1 = .inl f)) = true) →
    lookL (kvs.map fun kv => if kv.1 = .inl f then (kv.1, kv.2 ++ [d]) else kv) n = if n = f then lookL kvs f ++ [d] else lookL kvs n
  | [], h => by
    by_cases e : n = f
    · exact absurd (h e) (by simp)
    · rw [if_neg e]; rfl
  | kv :: t, h => by
    by_cases k1 : kv.1 = .inl n
    · by_cases e : n = f
      · subst e
        unfold lookL
        rw [List.map_cons, if_pos k1, List.find?_cons, List.find?_cons]
        simp [k1]
      · have k2 : ¬ kv.1 = .inl f := fun z => e (by rw [k1] at z; exact Sum.inl.inj z)
        unfold lookL
        rw [List.map_cons, if_neg k2, List.find?_cons, List.find?_cons, if_neg e]
        simp [k1]
    · have hk : ((if kv.1 = .inl f then (kv.1, kv.2 ++ [d]) else kv) : Ky × List D).1 = kv.1 := by split <;> rfl
      have ih := look_map f n d t (fun e => by
        have := h e
        rw [List.any_cons, Bool.or_eq_true] at this
        rcases this with z | z
        · simp only [decide_eq_true_eq] at z
          exact absurd (by rw [e]; exact z) k1
        · exact z)
      have l1 : lookL (((if kv.1 = .inl f then (kv.1, kv.2 ++ [d]) else kv) : Ky × List D) :: (t.map fun kv => if kv.1 = .inl f then (kv.1, kv.2 ++ [d]) else kv)) n = lookL (t.map fun kv => if kv.1 = .inl f then (kv.1, kv.2 ++ [d]) else kv) n := by
        unfold lookL
        rw [List.find?_cons]
        simp [hk, k1]
      have l2 : lookL (kv :: t) n = lookL t n := by
        unfold lookL
        rw [List.find?_cons]
        simp [k1]
      rw [List.map_cons, l1, ih, l2]
      by_cases e : n = f
      · subst e
        rw [if_pos rfl, if_pos rfl, l2]
      · rw [if_neg e, if_neg e]
theorem look_put (kvs : List (Ky × List D)) (f n : Int) (d : D) : lookL (putL kvs (.inl f) d) n = if n = f then lookL kvs f ++ [d] else lookL kvs n := by
  unfold putL
  by_cases h : (kvs.any fun kv => decide (kv.1 = .inl f)) = true
  · rw [if_pos h]
    exact look_map f n d kvs fun _ => h
  · rw [if_neg h]
    have nf : kvs.find? (fun kv => decide (kv.1 = .inl f)) = none := by
      rw [List.find?_eq_none]
      intro kv hk hz
      exact h (List.any_eq_true.mpr ⟨kv, hk, hz⟩)
    by_cases e : n = f
    · subst e
      rw [if_pos rfl]
      unfold lookL
      rw [List.find?_append, nf]
      simp
    · rw [if_neg e]
      unfold lookL
      rw [List.find?_append]
      cases q : kvs.find? fun kv => decide (kv.1 = .inl n) with
      | some kv => rfl
      | none =>
        have : ¬ f = n := fun z => e z.symm
        simp [this]
structure GrpK (ms : List Int) (k : Nat) (kvs : List (Ky × List D)) (ns : List Int) : Prop where
  keys : kvs.map (·.1) = ns.map Sum.inl
  nd : ns.Nodup
  mem : ∀ n, n ∈ ns ↔ ∃ p : Nat, p < k ∧ mkAt ms (p : Int) = n
  look : ∀ n ∈ ns, lookL kvs n = (((List.range k).filter fun p : Nat => mkAt ms (p : Int) == n).map fun p : Nat => (p : Int)).map .int
  lens : ∀ kv ∈ kvs, kv.2.length ≤ k
  len : kvs.length ≤ k
theorem GrpK.zero (ms : List Int) : GrpK ms 0 [] [] := ⟨rfl, .nil, fun n => by simp, (fun n (h : n ∈ []) => by cases h), (fun kv (h : kv ∈ []) => by cases h), Nat.le_refl _⟩
theorem GrpK.step {ms : List Int} {k : Nat} {kvs : List (Ky × List D)} {ns : List Int} (h : GrpK ms k kvs ns) : GrpK ms (k + 1) (putL kvs (.inl (mkAt ms (k : Int))) (.int (k : Int))) (if mkAt ms (k : Int) ∈ ns then ns else ns ++ [mkAt ms (k : Int)]) := by
  have hany : ((kvs.any fun kv => decide (kv.1 = .inl (mkAt ms (k : Int)))) = true) ↔ mkAt ms (k : Int) ∈ ns := by
    rw [List.any_eq_true]
    constructor
    · rintro ⟨kv, h1, h2⟩
      have h3 : (Sum.inl (mkAt ms (k : Int)) : Ky) ∈ kvs.map (·.1) := List.mem_map.mpr ⟨kv, h1, by simpa using h2⟩
      rw [h.keys] at h3
      obtain ⟨n, h4, h5⟩ := List.mem_map.mp h3
      rw [← Sum.inl.inj h5]
      exact h4
    · intro h1
      have h3 : (Sum.inl (mkAt ms (k : Int)) : Ky) ∈ kvs.map (·.1) := by rw [h.keys]; exact List.mem_map.mpr ⟨_, h1, rfl⟩
      obtain ⟨kv, h4, h5⟩ := List.mem_map.mp h3
      exact ⟨kv, h4, by simpa using h5⟩
  refine ⟨?_, ?_, fun n => ?_, fun n hn => ?_, fun kv hkv => ?_, ?_⟩
  · rw [put_keys]
    by_cases hm : mkAt ms (k : Int) ∈ ns
    · rw [if_pos (hany.mpr hm), if_pos hm, h.keys]
    · rw [if_neg (fun z => hm (hany.mp z)), if_neg hm, h.keys, List.map_append]
      rfl
  · by_cases hm : mkAt ms (k : Int) ∈ ns
    · rw [if_pos hm]; exact h.nd
    · rw [if_neg hm, List.nodup_append]
      exact ⟨h.nd, by simp, fun a ha b hb e => by simp at hb; subst hb; exact hm (e ▸ ha)⟩
  · have e1 : (∃ p : Nat, p < k + 1 ∧ mkAt ms (p : Int) = n) ↔ (∃ p : Nat, p < k ∧ mkAt ms (p : Int) = n) ∨ mkAt ms (k : Int) = n := by
      constructor
      · rintro ⟨p, h1, h2⟩
        by_cases hp : p = k
        · subst hp; exact .inr h2
        · exact .inl ⟨p, by omega, h2⟩
      · rintro (⟨p, h1, h2⟩ | h2)
        · exact ⟨p, by omega, h2⟩
        · exact ⟨k, by omega, h2⟩
    rw [e1, ← h.mem]
    by_cases hm : mkAt ms (k : Int) ∈ ns
    · rw [if_pos hm]
      exact ⟨.inl, fun z => z.elim id fun z => z ▸ hm⟩
    · rw [if_neg hm, List.mem_append, List.mem_singleton]
      exact ⟨fun z => z.imp id Eq.symm, fun z => z.imp id Eq.symm⟩
  · rw [look_put, List.range_succ, List.filter_append, List.map_append, List.map_append]
    by_cases e : n = mkAt ms (k : Int)
    · rw [if_pos e]
      have e2 : lookL kvs (mkAt ms (k : Int)) = (((List.range k).filter fun p : Nat => mkAt ms (p : Int) == n).map fun p : Nat => (p : Int)).map .int := by
        by_cases hm : mkAt ms (k : Int) ∈ ns
        · rw [← e, h.look n (e ▸ hm)]
        · have no : (List.range k).filter (fun p : Nat => mkAt ms (p : Int) == n) = [] := by
            rw [List.filter_eq_nil_iff]
            intro p hp hz
            exact hm ((h.mem _).mpr ⟨p, List.mem_range.mp hp, by rw [← e]; simpa using hz⟩)
          rw [no]
          have nf : kvs.find? (fun kv => decide (kv.1 = .inl (mkAt ms (k : Int)))) = none := by
            rw [List.find?_eq_none]
            intro kv hk hz
            exact hm (hany.mp (List.any_eq_true.mpr ⟨kv, hk, hz⟩))
          unfold lookL
          rw [nf]
          rfl
      have e3 : (mkAt ms (k : Int) == n) = true := by rw [e]; simp
      rw [e2, List.filter_cons, if_pos e3]
      rfl
    · have hn2 : n ∈ ns := by
        by_cases hm : mkAt ms (k : Int) ∈ ns
        · rw [if_pos hm] at hn; exact hn
        · rw [if_neg hm, List.mem_append, List.mem_singleton] at hn
          exact hn.elim id fun z => absurd z e
      rw [if_neg e, h.look n hn2]
      have : ¬ mkAt ms (k : Int) = n := fun z => e z.symm
      simp [this]
  · unfold putL at hkv
    split at hkv
    · obtain ⟨kv', h1, rfl⟩ := List.mem_map.mp hkv
      have := h.lens kv' h1
      split
      · simp; omega
      · omega
    · rcases List.mem_append.mp hkv with h1 | h1
      · have := h.lens kv h1
        omega
      · simp at h1
        subst h1
        simp
  · have hl := h.len
    unfold putL
    split
    · simp; omega
    · simp; omega
theorem GrpK.done {ms : List Int} {kvs : List (Ky × List D)} {ns : List Int} (h : GrpK ms ms.length kvs ns) : (ns.mergeSort fun a b => decide (a ≤ b)) = dsort ms ∧ (dsort ms).map (lookL kvs) = (dsort ms).map fun n => (grp ms n).map .int := by
  have hmem : ∀ n, n ∈ ns ↔ n ∈ ms := fun n => by
    rw [h.mem]
    constructor
    · rintro ⟨p, h1, h2⟩
      obtain ⟨_, h3⟩ := mkAt_ok (ms := ms) (a := (p : Int)) (by omega) (by omega)
      rw [h2] at h3
      exact List.mem_of_getElem? h3
    · intro hn
      obtain ⟨p, h1, h2⟩ := List.mem_iff_getElem.mp hn
      refine ⟨p, h1, ?_⟩
      unfold mkAt
      rw [List.getD_eq_getElem?_getD, Int.toNat_natCast, List.getElem?_eq_getElem h1, ← h2]
      rfl
  have hs : (ns.mergeSort fun a b => decide (a ≤ b)) = dsort ms := by
    refine dsort_uniq ?_ fun k => by rw [List.mem_mergeSort, hmem]
    have nd : (ns.mergeSort fun a b => decide (a ≤ b)).Nodup := (List.mergeSort_perm ..).nodup_iff.mpr h.nd
    have pw := srt_pwI ns
    have := pw.and (List.nodup_iff_pairwise_ne.mp nd)
    exact this.imp fun h => by
      have h1 := of_decide_eq_true h.1
      have h2 := h.2
      omega
  refine ⟨hs, List.map_congr_left fun n hn => ?_⟩
  rw [dsort_mem, ← hmem] at hn
  exact h.look n hn
end Lw
end

section
namespace Lw
open PySem DL
theorem web_0 {m : Int} {ts : List (Int × Int)} : gIx [.fz (webD m ts), .fz (.int 0)] = some (.val (.int m)) := by
  unfold webD
  rw [gIx_t, ixP_0]
  rfl
theorem web_1 {m : Int} {ts : List (Int × Int)} : gIx [.fz (webD m ts), .fz (.int 1)] = some (.val (.tuple (ts.map tieD))) := by
  unfold webD
  rw [gIx_t, ixP_1]
  rfl
section
variable {m : Int} {ts : List (Int × Int)} {rows : List (List Int)}
end
end Lw
end

section
namespace Lw
open PySem DL
def TpD : Nat → D → Prop
  | _, .int _ => True
  | k + 1, .tuple ds => ds.length ≤ 1000000 ∧ ∀ d ∈ ds, TpD k d
  | _, _ => False
theorem is_whole_ok {n : Int} : Oks sem_is_whole_637d [.fz (.int n)] fun v ys => v = .ok (.val (.bool true)) ∧ ys = [.fz (.int n)] := by
  refine oks_def rfl ?_
  have a1 : anyTy [.int] (.int n) = some true := rfl
  have a2 : anyTy [.bool] (.int n) = some false := rfl
  simp [-getElem?_pos, -getElem?_neg, List.getElem?_cons_zero, List.getElem?_cons_succ, b_is_whole_637d, a1, a2]
section
variable {m p its m1 m2 : Int} {ts ts1 ts2 : List (Int × Int)}
end
end Lw
end

section
namespace Lw
open PySem DL
section
variable {m p its m1 m2 : Int} {ts ts1 ts2 : List (Int × Int)}
end
end Lw
end

section
namespace Lw
open PySem DL
/-- a row begun with its least -/
def begI : List Int → List Int
  | [] => []
  | n :: ns => (n :: ns).drop (((n :: ns).findIdx? (· == ns.foldl min n)).getD 0) ++ (n :: ns).take (((n :: ns).findIdx? (· == ns.foldl min n)).getD 0)
theorem foldl_min_mem : ∀ (ns : List Int) (n : Int), ns.foldl min n ∈ n :: ns
  | [], n => by simp
  | m :: ns, n => by
    rw [List.foldl_cons]
    have := foldl_min_mem ns (min n m)
    rcases List.mem_cons.mp this with h | h
    · rw [h]
      rcases Int.le_total n m with hh | hh
      · rw [Int.min_eq_left hh]; simp
      · rw [Int.min_eq_right hh]; simp
    · simp [h]
theorem foldl_min_le : ∀ (ns : List Int) (n : Int), ∀ y ∈ n :: ns, ns.foldl min n ≤ y
  | [], n, y, h => by
    simp at h
    subst h
    exact Int.le_refl _
  | m :: ns, n, y, h => by
    rw [List.foldl_cons]
    have h0 := foldl_min_le ns (min n m) (min n m) (by simp)
    have h1 : min n m ≤ n := Int.min_le_left ..
    have h2 : min n m ≤ m := Int.min_le_right ..
    rcases List.mem_cons.mp h with rfl | h
    · omega
    · rcases List.mem_cons.mp h with rfl | h
      · omega
      · exact foldl_min_le ns (min n m) y (by simp [h])
theorem min_find (n : Int) (ns : List Int) : ∃ j, (n :: ns).findIdx? (· == ns.foldl min n) = some j ∧ j < ns.length + 1 := by
  cases h : (n :: ns).findIdx? (· == ns.foldl min n) with
  | none =>
    rw [List.findIdx?_eq_none_iff] at h
    have := h _ (foldl_min_mem ns n)
    simp at this
  | some j =>
    refine ⟨j, rfl, ?_⟩
    have := (List.findIdx?_eq_some_iff_findIdx_eq.mp h).1
    simpa using this
theorem min_facts (n : Int) (ns : List Int) : mmOk (PyData.int n :: List.map PyData.int ns) = true ∧ W.minD (PyData.int n) (List.map PyData.int ns) = .int (ns.foldl min n) ∧ ∃ j, idxP (PyData.int n :: List.map PyData.int ns) (some (.int (ns.foldl min n))) = some (.val (.int (j : Nat))) ∧ j < ns.length + 1 ∧ begI (n :: ns) = (n :: ns).drop j ++ (n :: ns).take j := by
  obtain ⟨j, hj, hj2⟩ := min_find n ns
  refine ⟨mmOk_ints (n :: ns), minD_of (foldl_min_mem ns n) (foldl_min_le ns n), j, ?_, hj2, ?_⟩
  · unfold idxP
    rw [show (PyData.int n :: List.map PyData.int ns) = (n :: ns).map .int from rfl, intsD_map]
    simp only [hj]
    rfl
  · simp only [begI, hj]
    rfl
theorem begun_ok {row : List Int} (hl : row.length ≤ 100000) : Oks sem_begun_fe2e [.fz (.list (row.map .int))] fun v ys => v = .ok (.val (.tuple ((begI row).map .int))) ∧ ys = [.fz (.list (row.map .int))] := by
  have lb : (lineD : Nat) = 16777216 := rfl
  refine oks_def rfl ?_
  cases row with
  | nil =>
    have gt : gTup [] = some (.val (.tuple [])) := rfl
    simp [-getElem?_pos, -getElem?_neg, List.getElem?_cons_zero, List.getElem?_cons_succ, b_begun_fe2e, gt, begI]
  | cons n ns =>
    obtain ⟨h1, h2, j, h3, h4, h5⟩ := min_facts n ns
    have h0 : ¬ ((ns.length : Int) + 1 = 0) := by omega
    simp [-getElem?_pos, -getElem?_neg, List.getElem?_cons_zero, List.getElem?_cons_succ, b_begun_fe2e, h0, h1, h2, h3]
    have l1 : (ns.length + 1 - j) + min j (ns.length + 1) ≤ lineD := by simp at hl; omega
    simp [-getElem?_pos, -getElem?_neg, List.getElem?_cons_zero, List.getElem?_cons_succ, cutD_take, cutD_drop, l1]
    rw [h5]
    simp [List.map_drop, List.map_take]
end Lw
end

section
namespace Lw
open PySem DL
theorem TpD.up : ∀ {k : Nat} {d : D}, TpD k d → TpD (k + 1) d
  | _, .int _, _ => trivial
  | k + 1, .tuple ds, h => ⟨h.1, fun d hd => TpD.up (h.2 d hd)⟩
  | 0, .tuple _, h => h.elim
  | 0, .list _, h => h.elim
  | 0, .none, h => h.elim
  | 0, .bool _, h => h.elim
  | 0, .str _, h => h.elim
  | 0, .dict _, h => h.elim
  | _ + 1, .list _, h => h.elim
  | _ + 1, .none, h => h.elim
  | _ + 1, .bool _, h => h.elim
  | _ + 1, .str _, h => h.elim
  | _ + 1, .dict _, h => h.elim
def floorD (m : Int) (ts : List (Int × Int)) (rows : List (List Int)) : D := .tuple [webD m ts, orderD rows]
end Lw
end

section
namespace Lw
open PySem DL
theorem okD_b {b : Bool} : okD (.bool b) = true := by
  unfold okD PyData.canLay0 PyData.depth
  rfl
theorem eqv_bb {a b : Bool} : PyData.eqv (.bool a) (.bool b) = decide (a = b) := by
  cases a <;> cases b <;> (unfold PyData.eqv; rfl)
@[simp] theorem gEq_bb {a b : Bool} : gEq [.fz (.bool a), .fz (.bool b)] = some (.val (.bool (decide (a = b)))) := by
  show (if okD (.bool a) && okD (.bool b) then some (RV.val (.bool (PyData.eqv (.bool a) (.bool b)))) else none) = _
  rw [okD_b, okD_b, eqv_bb]
  rfl
@[simp] theorem gNe_bb {a b : Bool} : gNe [.fz (.bool a), .fz (.bool b)] = some (.val (.bool (!decide (a = b)))) := by
  show (if okD (.bool a) && okD (.bool b) then some (RV.val (.bool (!PyData.eqv (.bool a) (.bool b)))) else none) = _
  rw [okD_b, okD_b, eqv_bb]
  rfl
end Lw
end

section
namespace Lw
open PySem DL
theorem rng0_mem {n : Int} {d : D} (h : d ∈ rng 0 n) : ∃ k : Nat, d = .int k ∧ (k : Int) < n := by
  obtain ⟨k, hk, e⟩ := List.mem_iff_getElem.mp h
  have := rng0_get (n := n) (k := k) (d := d) (by rw [List.getElem?_eq_getElem hk, e])
  exact ⟨k, this⟩
end Lw
end

section
namespace Lw
open PySem DL
end Lw
end

section
namespace Lw
open PySem DL
section
variable {m : Int} {ts : List (Int × Int)} {rows : List (List Int)} {tie : Nat}
end
end Lw
end

section
namespace Lw
open PySem DL
section
variable {m1 m2 : Int} {ts1 ts2 : List (Int × Int)} {rows1 rows2 : List (List Int)} {p its : Nat}
def shR (c : Int) (row : List Int) : List Int := row.map fun e => e + c
theorem plc_bd {m : Int} {ts : List (Int × Int)} (ht : TiesOk m ts) {x : Nat} (hx : x < 2 * ts.length) : 0 ≤ plc ts x ∧ plc ts x < m := by
  obtain ⟨t, h1, _, _, h2⟩ := plc_get hx
  have := ht t h1
  rcases h2 with h2 | h2 <;> omega
end
theorem ord_rows {m : Int} {ts : List (Int × Int)} {rows : List (List Int)} (ho : OrdN m ts (2 * ts.length) rows) : ∀ row ∈ rows, row.length ≤ 2 * ts.length := fun row hr => by
  obtain ⟨q, hq⟩ := List.mem_iff_getElem?.mp hr
  exact (ho.row q row hq).len
end Lw
end

section
namespace Lw
open PySem DL
section
variable {m1 m2 : Int} {ts1 ts2 : List (Int × Int)} {rows1 rows2 : List (List Int)} {p its : Nat}
end

end Lw
end

section
namespace Lw
open PySem DL
section
variable {m : Int} {ts : List (Int × Int)} {rows : List (List Int)} {tie : Nat}
theorem gAdd_tt {xs ys : List D} : gAdd [.fz (.tuple xs), .fz (.tuple ys)] = if xs.length + ys.length ≤ lineD then some (.val (.tuple (xs ++ ys))) else none := rfl
/-- the tie leads from the lesser place to the greater one, or back -/
structure Dr (ts : List (Int × Int)) (tie low high : Nat) (e e' : Int) : Prop where
  t : ∃ t, ts[tie]? = some t ∧ ((t = ((low : Int), (high : Int)) ∧ e = 2 * tie ∧ e' = 2 * tie + 1) ∨ (t = ((high : Int), (low : Int)) ∧ e = 2 * tie + 1 ∧ e' = 2 * tie))
  lt : low < high
theorem Dr.lens {low high : Nat} {e e' : Int} (d : Dr ts tie low high e e') (hts : TiesOk m ts) : tie < ts.length ∧ (high : Int) < m := by
  obtain ⟨⟨t, h, h2⟩, hlt⟩ := d
  have h1 := (List.getElem?_eq_some_iff.mp h).1
  obtain ⟨a, b⟩ := hts t (List.mem_of_getElem? h)
  rcases h2 with ⟨rfl, _, _⟩ | ⟨rfl, _, _⟩ <;> exact ⟨h1, by simp at a b; omega⟩
theorem Dr.et {low high : Nat} {e e' : Int} (d : Dr ts tie low high e e') : e / 2 = tie ∧ e' / 2 = tie ∧ 0 ≤ e ∧ 0 ≤ e' ∧ plc ts e.toNat = low ∧ plc ts e'.toNat = high ∧ e' = e + 1 - 2 * (e % 2) := by
  obtain ⟨⟨t, h, h2⟩, hlt⟩ := d
  have k : ∀ x : Nat, x / 2 = tie → plc ts x = if x % 2 = 0 then t.1 else t.2 := fun x hx => by
    unfold plc
    rw [hx, h]
  rcases h2 with ⟨rfl, rfl, rfl⟩ | ⟨rfl, rfl, rfl⟩
  · refine ⟨by omega, by omega, by omega, by omega, ?_, ?_, by omega⟩
    · rw [k _ (by omega), if_pos (by omega)]
    · rw [k _ (by omega), if_neg (by omega)]
  · refine ⟨by omega, by omega, by omega, by omega, ?_, ?_, by omega⟩
    · rw [k _ (by omega), if_neg (by omega)]
    · rw [k _ (by omega), if_pos (by omega)]
end
end Lw
end

section
namespace Lw
open PySem DL
def putI (row : List Int) (i : Nat) (n : Int) : List Int := row.take i ++ n :: row.drop i
def posC (row : List Int) : D → Nat
  | .int e => match row.findIdx? (· == e) with
    | some j => j + 1
    | none => row.length
  | _ => row.length
def plD (p : Nat) : D := .tuple [.str (Str.ofString "place"), .int p]
inductive Cor (m : Int) (ts : List (Int × Int)) (rows : List (List Int)) : D → Nat → Prop
  | tie (e p : Nat) : e < 2 * ts.length → plc ts e = p → Cor m ts rows (.int e) p
  | bare (p : Nat) : rows[p]? = some [] → (p : Int) < m → Cor m ts rows (plD p) p
theorem allOkE_ints {row : List Int} : (row.map PyData.int).all okE = true := by
  rw [List.all_eq_true]
  intro d hd
  obtain ⟨x, _, rfl⟩ := List.mem_map.mp hd
  rfl
theorem putI_end {row : List Int} {n : Int} : putI row row.length n = row ++ [n] := by simp [putI]
theorem okE_pl (p : Nat) : okE (plD p) = true := by
  unfold okE plD
  have : PyData.strOk (Str.ofString "place") = true := by decide +kernel
  simp [PyData.canLay0, PyData.canLayAll0, PyData.depth, PyData.depthAll, this]
theorem ne_pl : gNe [.fz (.str (Str.ofString "place")), .fz (.str (Str.ofString "place"))] = some (.val (.bool false)) := by
  have o1 : okD (.str (Str.ofString "place")) = true := by
    unfold okD
    have : PyData.strOk (Str.ofString "place") = true := by decide +kernel
    simp [PyData.canLay0, PyData.depth, this]
  have o2 : PyData.eqv (.str (Str.ofString "place")) (.str (Str.ofString "place")) = true := by decide +kernel
  show (if okD (.str (Str.ofString "place")) && okD (.str (Str.ofString "place")) then some (RV.val (.bool (!PyData.eqv (.str (Str.ofString "place")) (.str (Str.ofString "place"))))) else none) = _
  rw [o1, o2]
  rfl
theorem lay_ints : ∀ row : List Int, PyData.canLayAll0 (row.map PyData.int) = true ∧ PyData.depthAll (row.map PyData.int) ≤ 1
  | [] => ⟨rfl, by simp [PyData.depthAll]⟩
  | x :: xs => by
    have := lay_ints xs
    refine ⟨by simp [PyData.canLayAll0, PyData.canLay0, this.1], ?_⟩
    have h2 := this.2
    simp [PyData.depthAll, PyData.depth]
    omega
theorem eq_bare {row : List Int} : gEq [.fz (.tuple (row.map .int)), .fz (.tuple [])] = some (.val (.bool row.isEmpty)) := by
  have h := lay_ints row
  have o1 : okD (.tuple (row.map .int)) = true := by
    unfold okD
    simp [PyData.canLay0, PyData.depth, h.1]
    omega
  have o2 : PyData.eqv (.tuple (row.map .int)) (.tuple []) = row.isEmpty := by
    cases row with
    | nil => rfl
    | cons x xs => rfl
  show (if okD (.tuple (row.map .int)) && okD (.tuple []) then some (RV.val (.bool (PyData.eqv (.tuple (row.map .int)) (.tuple [])))) else none) = _
  rw [o1, o2]
  rfl
theorem put_behind_ok {m : Int} {ts : List (Int × Int)} {rows : List (List Int)} {row : List Int} {c : D} {p : Nat} {n : Int} (hc : Cor m ts rows c p) (hl : row.length ≤ 100000) :
    Oks sem_put_behind_7da8 [.ow (.lst (row.map .int)), .fz c, .fz (.int n)] fun v ys => v = .ok (.val .none) ∧ ys = [.ow (.lst ((putI row (posC row c) n).map .int)), .fz c, .fz (.int n)] := by
  have lb : (lineD : Nat) = 16777216 := rfl
  have hl2 : row.length < lineD := by omega
  have hl3 : (row.length : Int) < 9223372036854775808 := by omega
  have tk : List.take row.length (row.map PyData.int) = row.map PyData.int := List.take_of_length_le (by simp)
  have dk : List.drop row.length (row.map PyData.int) = [] := List.drop_of_length_le (by simp)
  refine oks_def rfl ?_
  cases hc with
  | tie e p he hp =>
    have o1 : okE (.int (e : Int)) = true := rfl
    cases hf : row.findIdx? (· == (e : Int)) with
    | none =>
      have ha : row.any ((fun y => PyData.eqv y (.int (e : Int))) ∘ PyData.int) = false := by
        rw [List.findIdx?_eq_none_iff] at hf
        rw [List.any_eq_false]
        intro x hx
        have := hf x hx
        show ¬ (x == (e : Int)) = true
        simp [this]
      have hpos : posC row (.int (e : Int)) = row.length := by simp only [posC, hf]
      simp [-getElem?_pos, -getElem?_neg, List.getElem?_cons_zero, List.getElem?_cons_succ, b_put_behind_7da8, allOkE_ints, o1, ha, hl2, hl3, hpos, putI_end, tk, dk]
    | some j =>
      have hj := (List.findIdx?_eq_some_iff_getElem.mp hf).1
      have hj2 := (List.findIdx?_eq_some_iff_getElem.mp hf).2.1
      have ha : row.any ((fun y => PyData.eqv y (.int (e : Int))) ∘ PyData.int) = true := by
        rw [List.any_eq_true]
        exact ⟨row[j], List.getElem_mem hj, hj2⟩
      have hpos : posC row (.int (e : Int)) = j + 1 := by simp only [posC, hf]
      have s1 : (0 : Int) ≤ (j : Int) + 1 := by omega
      have s2 : (j : Int) + 1 < 9223372036854775808 := by omega
      have s3 : ((j : Int) + 1).toNat = j + 1 := by omega
      simp [-getElem?_pos, -getElem?_neg, List.getElem?_cons_zero, List.getElem?_cons_succ, b_put_behind_7da8, allOkE_ints, o1, ha, hl2, hl3, hpos, putI, hf, s1, s2, s3, idxP_i]
  | bare p hr hp =>
    have o1 := okE_pl p
    have ha : row.any ((fun y => PyData.eqv y (plD p)) ∘ PyData.int) = false := by
      rw [List.any_eq_false]
      intro x hx
      exact Bool.false_ne_true
    have hpos : posC row (plD p) = row.length := rfl
    simp [-getElem?_pos, -getElem?_neg, List.getElem?_cons_zero, List.getElem?_cons_succ, b_put_behind_7da8, allOkE_ints, o1, ha, hl2, hl3, hpos, putI_end, tk, dk]
theorem is_corner_ok {m : Int} {ts : List (Int × Int)} {rows : List (List Int)} {c : D} {p : Nat} (hc : Cor m ts rows c p) (hl : ts.length ≤ 1000) :
    Oks sem_is_corner_0de1 [.fz (webD m ts), .fz (orderD rows), .fz c] fun v ys => v = .ok (.val (.bool true)) ∧ ys = [.fz (webD m ts), .fz (orderD rows), .fz c] := by
  have lb : (lineD : Nat) = 16777216 := rfl
  refine oks_def rfl ?_
  cases hc with
  | tie e p he hp =>
    obtain ⟨_, _, e1, rfl, rfl⟩ := is_whole_ok (n := (e : Int))
    have h1 : (0 : Int) ≤ e := by omega
    have h2 : (e : Int) < 2 * (ts.length : Int) := by omega
    have s1 : SmM 2 (ts.length : Int) := smM_of (by omega) (by omega)
    simp [-getElem?_pos, -getElem?_neg, List.getElem?_cons_zero, List.getElem?_cons_succ, b_is_corner_0de1, e1, web_1, h1, h2, s1]
  | bare p hr hp =>
    have e1 : Oks sem_is_whole_637d [.fz (plD p)] fun v ys => v = .ok (.val (.bool false)) ∧ ys = [.fz (plD p)] := by
      refine oks_def rfl ?_
      have a1 : anyTy [.int] (plD p) = some false := rfl
      simp [-getElem?_pos, -getElem?_neg, List.getElem?_cons_zero, List.getElem?_cons_succ, b_is_whole_637d, a1]
    obtain ⟨_, _, e1, rfl, rfl⟩ := e1
    obtain ⟨_, _, e2, rfl, rfl⟩ := is_whole_ok (n := (p : Int))
    have a2 : anyTy [.tuple] (.tuple [.str (Str.ofString "place"), .int (p : Int)]) = some true := rfl
    have h1 : (0 : Int) ≤ p := by omega
    have g1 := orderD_get hr
    have g2 : gEq [.fz (.tuple []), .fz (.tuple [])] = some (.val (.bool true)) := eq_bare (row := [])
    have gt : gTup [] = some (.val (.tuple [])) := rfl
    have i0 : ixP [PyData.str (Str.ofString "place"), .int (p : Int)] 0 = some (.str (Str.ofString "place")) := ixP_0
    have i1 : ixP [PyData.str (Str.ofString "place"), .int (p : Int)] 1 = some (.int p) := ixP_1
    unfold plD at e1 ⊢
    simp [-getElem?_pos, -getElem?_neg, List.getElem?_cons_zero, List.getElem?_cons_succ, b_is_corner_0de1, e1, e2, a2, web_0, hp, h1, orderD, g1, g2, gt, i0, i1, ne_pl]
theorem corner_place_ok {m : Int} {ts : List (Int × Int)} {rows : List (List Int)} {c : D} {p : Nat} (hc : Cor m ts rows c p) :
    Oks sem_corner_place_c3d1 [.fz (webD m ts), .fz c] fun v ys => v = .ok (.val (.int p)) ∧ ys = [.fz (webD m ts), .fz c] := by
  refine oks_def rfl ?_
  cases hc with
  | tie e p he hp =>
    obtain ⟨_, _, e1, rfl, rfl⟩ := place_ok (m := m) he
    have a1 : anyTy [.tuple] (.int (e : Int)) = some false := rfl
    simp [-getElem?_pos, -getElem?_neg, List.getElem?_cons_zero, List.getElem?_cons_succ, b_corner_place_c3d1, e1, a1, hp]
  | bare p hr hp =>
    have a2 : anyTy [.tuple] (.tuple [.str (Str.ofString "place"), .int (p : Int)]) = some true := rfl
    have i1 : ixP [PyData.str (Str.ofString "place"), .int (p : Int)] 1 = some (.int p) := ixP_1
    simp [-getElem?_pos, -getElem?_neg, List.getElem?_cons_zero, List.getElem?_cons_succ, b_corner_place_c3d1, a2, plD, i1]
end Lw
end

section
namespace Lw
open PySem DL
def dsI : D → List D
  | .tuple ds => ds
  | _ => []
def begDD (ds : List D) : D := .tuple ((begI ((intsD ds).getD [])).map .int)
theorem begDD_i (row : List Int) : begDD (row.map .int) = .tuple ((begI row).map .int) := by
  unfold begDD
  rw [intsD_map]
  rfl
theorem rowsD_set {rows : List (List Int)} {p : Nat} {row : List Int} : (rowsD rows).set p (row.map .int) = rowsD (rows.set p row) := by
  unfold rowsD
  rw [List.map_set]
theorem rowsD_get {rows : List (List Int)} {p : Nat} {row : List Int} (h : rows[p]? = some row) : (rowsD rows)[p]? = some (row.map .int) := by
  unfold rowsD
  rw [List.getElem?_map, h]
  rfl
def putR (rows : List (List Int)) (p : Nat) (c : D) (n : Int) : List (List Int) := rows.set p (putI (rows.getD p []) (posC (rows.getD p []) c) n)
def putRR (rows : List (List Int)) (p1 p2 : Nat) (c1 c2 : D) (T : Nat) : List (List Int) := (putR (putR rows p1 c1 (2 * T)) p2 c2 (2 * T + 1)).map begI
def putT (ts : List (Int × Int)) (p1 p2 : Nat) : List (Int × Int) := ts ++ [((p1 : Int), (p2 : Int))]
theorem Cor.lt {m : Int} {ts : List (Int × Int)} {rows : List (List Int)} {c : D} {p : Nat} (h : Cor m ts rows c p) (ht : TiesOk m ts) : (p : Int) < m := by
  cases h with
  | tie e p he hp => have := plc_bd ht he; omega
  | bare p hr hp => exact hp
theorem putI_len {row : List Int} {i : Nat} {n : Int} : (putI row i n).length = row.length + 1 := by
  unfold putI
  simp
  omega
theorem putR_len {rows : List (List Int)} {p : Nat} {c : D} {n : Int} : (putR rows p c n).length = rows.length := by
  unfold putR
  rw [List.length_set]
theorem getD_get {rows : List (List Int)} {p : Nat} (h : p < rows.length) : rows[p]? = some (rows.getD p []) := by
  rw [List.getD_eq_getElem?_getD, List.getElem?_eq_getElem h]
  rfl
theorem putR_S {rows : List (List Int)} {p : Nat} {c : D} {n : Int} {L : Nat} (h : ∀ row ∈ rows, row.length ≤ L) : ∀ row ∈ putR rows p c n, row.length ≤ L + 1 := fun row hr => by
  unfold putR at hr
  rcases List.mem_or_eq_of_mem_set hr with h1 | rfl
  · have := h row h1; omega
  · rw [putI_len]
    by_cases hp : p < rows.length
    · have := h _ (List.mem_of_getElem? (getD_get hp)); omega
    · rw [List.getD_eq_getElem?_getD, List.getElem?_eq_none (by omega)]
      simp
theorem listI {rows : List (List Int)} : (rows.map fun row => PyData.tuple (row.map .int)).map dsI = rowsD rows := by
  unfold rowsD
  rw [List.map_map]
  rfl
section
variable {m : Int} {ts : List (Int × Int)} {rows : List (List Int)} {c1 c2 : D} {p1 p2 : Nat}
def begE : D → D
  | .list ds => begDD ds
  | d => d
theorem begE_map {rows : List (List Int)} : ((rowsD rows).map PyData.list).map begE = (rows.map begI).map fun row => PyData.tuple (row.map .int) := by
  unfold rowsD
  rw [List.map_map, List.map_map, List.map_map]
  refine List.map_congr_left fun row _ => ?_
  show begDD (row.map .int) = _
  rw [begDD_i]
  rfl
end
end Lw
end

section
namespace Lw
open PySem DL
section
variable {m : Int} {ts : List (Int × Int)} {rows : List (List Int)} {c1 c2 : D} {p1 p2 : Nat}
end
end Lw
end

section
namespace Lw
open PySem DL
section
variable {m : Int} {ts : List (Int × Int)} {rows : List (List Int)} {c1 c2 : D} {p1 p2 : Nat}
def bareF (rows : List (List Int)) : D → Option D
  | .int n => if rows[n.toNat]? = some [] then some (.int n) else none
  | _ => none
theorem bare_mem {d : D} (hm : 0 ≤ m) (hr : rows.length = m.toNat) (h : d ∈ (rng 0 m).filterMap (bareF rows)) : ∃ p : Nat, d = .int p ∧ rows[p]? = some [] ∧ (p : Int) < m := by
  obtain ⟨d0, h1, h2⟩ := List.mem_filterMap.mp h
  obtain ⟨k, rfl, hk⟩ := rng0_mem h1
  have h2 : (if rows[((k : Nat) : Int).toNat]? = some [] then some (PyData.int k) else none) = some d := h2
  split at h2
  · rename_i hh
    cases h2
    exact ⟨k, rfl, by simpa using hh, by omega⟩
  · cases h2
theorem ix_mem {ds : List D} {a : Int} (h0 : 0 ≤ a) (h1 : a < ds.length) : ∃ d, d ∈ ds ∧ ixP ds a = some d := by
  obtain ⟨k, rfl⟩ : ∃ k : Nat, a = k := ⟨a.toNat, by omega⟩
  have hk : k < ds.length := by omega
  exact ⟨ds[k], List.getElem_mem hk, ixP_nat (List.getElem?_eq_getElem hk)⟩
theorem Lcorner_ok {n : Nat} {p : List D} (hp : Pen n p) (hn : n ≤ 800000) (hm : 1 ≤ m ∧ m ≤ 1000) (ho : OrdN m ts (2 * ts.length) rows) (ht : TiesOk m ts) (hl : ts.length ≤ 1000) :
    Oks sem_Lcorner_5df4 [.ow (.lst p), .fz (webD m ts), .fz (orderD rows)] fun v ys => ∃ c q p', v = .ok (.val c) ∧ ys = [.ow (.lst p'), .fz (webD m ts), .fz (orderD rows)] ∧ Cor m ts rows c q ∧ Pen (n + 2) p' := by
  have lb : (lineD : Nat) = 16777216 := rfl
  have o1 : -4611686018427387904 ≤ m := by omega
  have o2 : m < 4611686018427387904 := by omega
  have s1 : SmM 2 (ts.length : Int) := smM_of (by omega) (by omega)
  have gt : gTup [] = some (.val (.tuple [])) := rfl
  refine oks_def rfl ?_
  simp [-getElem?_pos, -getElem?_neg, List.getElem?_cons_zero, List.getElem?_cons_succ, b_Lcorner_5df4, web_0, o1, o2, anyPin]
  refine lcK_of (bareF rows) (fun d hd => ?_) (by rw [List.length_nil, rng0_len]; omega) ?_
  · obtain ⟨k, rfl, hk⟩ := rng0_mem hd
    obtain ⟨row, hrow⟩ : ∃ row, rows[k]? = some row := ⟨_, List.getElem?_eq_getElem (by rw [ho.len]; omega)⟩
    have g1 := orderD_get hrow
    have e1 := eq_bare (row := row)
    cases row with
    | nil =>
      have e1 : gEq [.fz (.tuple []), .fz (.tuple [])] = some (.val (.bool true)) := e1
      have b1 : bareF rows (.int (k : Int)) = some (.int k) := by simp [bareF, hrow]
      simp [-getElem?_pos, -getElem?_neg, List.getElem?_cons_zero, List.getElem?_cons_succ, orderD, g1, gt, b1, e1]
    | cons x xs =>
      have e1 : gEq [.fz (.tuple (.int x :: xs.map .int)), .fz (.tuple [])] = some (.val (.bool false)) := e1
      have b1 : bareF rows (.int (k : Int)) = none := by simp [bareF, hrow]
      simp [-getElem?_pos, -getElem?_neg, List.getElem?_cons_zero, List.getElem?_cons_succ, orderD, g1, gt, b1, e1]
  · rw [List.nil_append]
    have hB : ∀ d ∈ (rng 0 m).filterMap (bareF rows), ∃ p : Nat, d = .int p ∧ rows[p]? = some [] ∧ (p : Int) < m := fun d hd => bare_mem (by omega) ho.len hd
    have hL : ((rng 0 m).filterMap (bareF rows)).length ≤ 1000 := by
      have := List.length_filterMap_le (bareF rows) (rng 0 m)
      rw [rng0_len] at this
      omega
    have h0 : ts.length = 0 → 0 < ((rng 0 m).filterMap (bareF rows)).length := fun hz => by
      have hr := ho.len
      obtain ⟨row, hrow⟩ : ∃ row, rows[0]? = some row := ⟨_, List.getElem?_eq_getElem (by omega)⟩
      have := (ho.row 0 row hrow).len
      have hn : row = [] := List.eq_nil_of_length_eq_zero (by omega)
      subst hn
      have hm0 : (PyData.int 0) ∈ (rng 0 m).filterMap (bareF rows) := by
        refine List.mem_filterMap.mpr ⟨.int 0, ?_, by simp [bareF, hrow]⟩
        rw [rng_ints]
        exact List.mem_map.mpr ⟨0, List.mem_map.mpr ⟨0, List.mem_range.mpr (by omega), rfl⟩, rfl⟩
      exact List.length_pos_of_mem hm0
    obtain ⟨B, hBe⟩ : ∃ B, B = (rng 0 m).filterMap (bareF rows) := ⟨_, rfl⟩
    rw [← hBe] at hB hL h0 ⊢
    clear hBe
    have fin : ∀ {n' : Nat} {p' : List D}, Pen n' p' → n' ≤ n + 1 → 0 < B.length → ∃ a p'' q, sem_Ldraw_de5b [.ow (.lst p'), .fz (.int (B.length : Int))] = some (.ok (.val (.int a)), [.ow (.lst p''), .fz (.int (B.length : Int))]) ∧ ixP B a = some (.int (q : Nat)) ∧ Cor m ts rows (plD q) q ∧ Pen (n + 2) p'' := fun {n' p'} hp' hn' hb => by
      obtain ⟨_, _, e4, a, p4, rfl, rfl, a0, a1, hp4⟩ := draw_ok hp' (by omega) (m := (B.length : Int)) (by omega)
      obtain ⟨d, hd, hi⟩ := ix_mem a0 a1
      obtain ⟨q, rfl, h1, h2⟩ := hB d hd
      exact ⟨a, p4, q, e4, hi, .bare q h1 h2, pen_mono (by omega) hp4⟩
    have fin2 : ∀ {n' : Nat} {p' : List D}, Pen n' p' → n' ≤ n + 1 → 0 < ts.length → ∃ a p'' q, sem_Ldraw_de5b [.ow (.lst p'), .fz (.int (2 * (ts.length : Int)))] = some (.ok (.val (.int a)), [.ow (.lst p''), .fz (.int (2 * (ts.length : Int)))]) ∧ Cor m ts rows (.int a) q ∧ Pen (n + 2) p'' := fun {n' p'} hp' hn' hb => by
      obtain ⟨_, _, e4, a, p4, rfl, rfl, a0, a1, hp4⟩ := draw_ok hp' (by omega) (m := 2 * (ts.length : Int)) (by omega)
      obtain ⟨k, rfl⟩ : ∃ k : Nat, a = k := ⟨a.toNat, by omega⟩
      have := plc_bd ht (x := k) (by omega)
      exact ⟨_, p4, (plc ts k).toNat, e4, .tie k _ (by omega) (by omega), pen_mono (by omega) hp4⟩
    by_cases hz : ts.length = 0
    · obtain ⟨a, p'', q, e4, hi, hc, hp4⟩ := fin hp (by omega) (h0 hz)
      simp [-getElem?_pos, -getElem?_neg, List.getElem?_cons_zero, List.getElem?_cons_succ, web_1, hz, e4, hi]
      exact ⟨⟨q, hc⟩, hp4⟩
    · have hz2 : ¬ (ts = []) := fun h => hz (by rw [h]; rfl)
      by_cases hb : 0 < B.length
      · obtain ⟨_, _, e5, a5, p5, rfl, rfl, a50, a51, hp5⟩ := draw_ok hp (by omega) (m := 3) (by omega)
        have hb2 : (0 : Int) < (B.length : Int) := by omega
        by_cases ha : a5 = 0
        · obtain ⟨a, p'', q, e4, hi, hc, hp4⟩ := fin hp5 (by omega) hb
          simp [-getElem?_pos, -getElem?_neg, List.getElem?_cons_zero, List.getElem?_cons_succ, web_1, hz2, e4, hi, e5, hb, ha]
          exact ⟨⟨q, hc⟩, hp4⟩
        · obtain ⟨a, p'', q, e4, hc, hp4⟩ := fin2 hp5 (by omega) (by omega)
          simp [-getElem?_pos, -getElem?_neg, List.getElem?_cons_zero, List.getElem?_cons_succ, web_1, hz2, e4, e5, hb, ha, s1]
          exact ⟨⟨q, hc⟩, hp4⟩
      · obtain ⟨a, p'', q, e4, hc, hp4⟩ := fin2 hp (by omega) (by omega)
        have hb2 : ¬ (0 : Int) < (B.length : Int) := by omega
        simp [-getElem?_pos, -getElem?_neg, List.getElem?_cons_zero, List.getElem?_cons_succ, web_1, hz2, e4, hb, s1]
        exact ⟨⟨q, hc⟩, hp4⟩
end
end Lw
end

section
namespace Lw
open PySem DL
end Lw
end

section
namespace Lw
open PySem DL
set_option maxHeartbeats 1000000 in
theorem draw_big {n : Nat} {p : List D} {m : Int} (hp : Pen n p) (hn : n ≤ 1000000) (hm : 1 ≤ m ∧ m ≤ 2 ^ 199) :
    Oks sem_Ldraw_de5b [.ow (.lst p), .fz (.int m)] fun v ys => ∃ r p', v = .ok (.val (.int r)) ∧ ys = [.ow (.lst p'), .fz (.int m)] ∧ 0 ≤ r ∧ r < m ∧ Pen (n + 1) p' := by
  obtain ⟨cs, a, g, rfl, ha, hn2, hg, hcs⟩ := hp.ex
  refine oks_def rfl ?_
  have m0 : 0 < m := by omega
  have pow : (10 : Int) ^ 18 = 1000000000000000000 := by decide
  have mm : DL.SmD m := smD_of ⟨by omega, by omega⟩
  have r0 : ∀ x : Int, 0 ≤ x % m := fun x => Int.emod_nonneg _ (by omega)
  have r1 : ∀ x : Int, x % m < m := fun x => Int.emod_lt_of_pos _ m0
  by_cases hg0 : 0 < g
  · simp [b_Ldraw_de5b, hg0, -getElem?_pos, -getElem?_neg, List.getElem?_cons_zero, List.getElem?_cons_succ, m0, mm, r0, r1]
    exact ⟨cs, a, g / m, rfl, ha, by omega, Int.ediv_nonneg hg (by omega), hcs⟩
  · have s1 : SmM 69621 a := smM_of (by omega) (by omega)
    have s2 : ∀ c : Int, SmM (c % 2147483647 + 69621 * a + 13) 48271 := fun c => smM_of (by omega) (by omega)
    have key : ∀ x : Int, 0 ≤ x % 2147483629 ∧ x % 2147483629 < 2147483629 := fun x => by omega
    have s3 : ∀ x : Int, SmM (x % 2147483629) (x % 2147483629) := fun c => smM_of (by omega) (by omega)
    have s4 : ∀ x : Int, SmM 40692 (x % 2147483629) := fun c => smM_of (by omega) (by omega)
    have s5 : ∀ x : Int, SmM (x % 2147483587) 16807 := fun c => smM_of (by omega) (by omega)
    have s6 : DL.SmD 32 := smD_of (by omega)
    have pen1 : ∀ g', 0 ≤ g' → Pen (n + 1) [.list (cs.map .int), .int (a + 1), .int g'] := fun g' h => ⟨cs, a + 1, g', rfl, by omega, by omega, h, hcs⟩
    by_cases hl : 0 < cs.length
    · obtain ⟨c, hc⟩ := ixP_map (cs := cs) (i := a % cs.length) (Int.emod_nonneg _ (by omega)) (Int.emod_lt_of_pos _ (by omega))
      by_cases h2 : a < cs.length ∧ 10 ^ 18 ≤ (if c < 0 then -c else c)
      · have h2' := h2.2
        rw [pow] at h2'
        simp [b_Ldraw_de5b, hg0, -getElem?_pos, -getElem?_neg, List.getElem?_cons_zero, List.getElem?_cons_succ, m0, mm, r0, r1, s1, s2, s3, s4, s5, s6, hl, hc, h2.1, h2', pow]
        exact pen1 _ (Int.ediv_nonneg (by omega) (by omega))
      · by_cases h3 : a < cs.length
        · have h2' : ¬ 1000000000000000000 ≤ (if c < 0 then -c else c) := fun h => h2 ⟨h3, by rw [pow]; exact h⟩
          simp [b_Ldraw_de5b, hg0, -getElem?_pos, -getElem?_neg, List.getElem?_cons_zero, List.getElem?_cons_succ, m0, mm, r0, r1, s1, s2, s3, s4, s5, s6, hl, hc, h3, h2', pow]
          exact pen1 _ hg
        · simp [b_Ldraw_de5b, hg0, -getElem?_pos, -getElem?_neg, List.getElem?_cons_zero, List.getElem?_cons_succ, m0, mm, r0, r1, s1, s2, s3, s4, s5, s6, hl, hc, h3]
          exact pen1 _ hg
    · have hl2 : cs.length = 0 := by omega
      have h3 : ¬ a < 0 := by omega
      have s2' : SmM (11 + 69621 * a + 13) 48271 := smM_of (by omega) (by omega)
      simp [b_Ldraw_de5b, hg0, -getElem?_pos, -getElem?_neg, List.getElem?_cons_zero, List.getElem?_cons_succ, m0, mm, r0, r1, s1, s2, s2', s3, s4, s5, s6, hl, hl2, h3]
      exact pen1 _ hg

theorem whole_no {d : D} {b : Bool} {c : Bool} (h1 : anyTy [.int] d = some b) (h2 : anyTy [.bool] d = some c) (h : (b && !c) = false) : sem_is_whole_637d [.fz d] = some (.ok (.val (.bool false)), [.fz d]) := by
  have : Oks sem_is_whole_637d [.fz d] fun v ys => v = .ok (.val (.bool false)) ∧ ys = [.fz d] := by
    refine oks_def rfl ?_
    cases b <;> cases c <;> first | (simp [-getElem?_pos, -List.getD_eq_getElem?_getD, -getElem?_neg, List.getElem?_cons_zero, List.getElem?_cons_succ, b_is_whole_637d, h1, h2]; done) | cases h
  obtain ⟨_, _, e, rfl, rfl⟩ := this
  exact e
section
variable {m : Int} {ts : List (Int × Int)} {rows : List (List Int)} {tie : Nat}
end
end Lw
end

section
namespace Lw
open PySem DL
structure Shw (d : D) : Prop where
  lay : (d.canLay0 || DL.layT d) = true
  sw : d.showable = true
  dep : d.depth ≤ 10
  sh : d.leavesShort 300 = true
  wt : d.weight ≤ 1000
def shwB (d : D) : Bool := (d.canLay0 || DL.layT d) && d.showable && decide (d.depth ≤ 10) && d.leavesShort 300 && decide (d.weight ≤ 1000)
theorem shw_of {d : D} (h : shwB d = true) : Shw d := by
  simp only [shwB, Bool.and_eq_true, decide_eq_true_eq] at h
  obtain ⟨⟨⟨⟨h1, h2⟩, h3⟩, h4⟩, h5⟩ := h
  exact ⟨h1, h2, h3, h4, h5⟩
theorem shw_int {n : Int} (hb : -(2 ^ 200) ≤ n ∧ n ≤ 2 ^ 200) : Shw (.int n) := by
  have hlog : n.natAbs.log2 < 201 := by
    by_cases h0 : n.natAbs = 0
    · rw [h0]; decide
    · refine (Nat.log2_lt h0).mpr (Nat.lt_of_le_of_lt (m := 2 ^ 200) ?_ (Nat.pow_lt_pow_right (by omega) (by omega)))
      omega
  refine ⟨rfl, ?_, ?_, ?_, ?_⟩
  · simp only [PyData.showable, decide_eq_true_eq]; omega
  · simp [PyData.depth]
  · simp only [PyData.leavesShort, PyData.shown]
    refine decide_eq_true ?_
    have := int_text_length_le (k := 201) (by decide) hlog
    show (Str.ofString (toString n)).length ≤ 300
    rw [ofString_length]
    omega
  · simp only [PyData.weight]
    split <;> omega
theorem shL_shw {d1 d2 : D} (h1 : Shw d1) (h2 : Shw d2) : DL.shL (.list [d1, d2]) = true := by
  have hl : (PyData.list [d1, d2]).leavesShort 300 = true := by simp [PyData.leavesShort, PyData.leavesShortAll, h1.sh, h2.sh]
  have hs := PyData.shown_le 300 (by decide) _ hl
  have hw : (PyData.list [d1, d2]).weight ≤ 2002 := by
    have := h1.wt
    have := h2.wt
    simp only [PyData.weight, PyData.weightAll]
    omega
  have hd : PyData.depthAll [d1, d2] ≤ 40 := by
    have := h1.dep
    have := h2.dep
    simp only [PyData.depthAll]
    omega
  have hlen : (PyData.shown (.list [d1, d2])).length ≤ lineD := by
    have lb : (lineD : Nat) = 16777216 := rfl
    have : (300 + 2) * (PyData.list [d1, d2]).weight ≤ 302 * 2002 := Nat.mul_le_mul (by omega) hw
    omega
  unfold DL.shL
  simp only [List.all_cons, List.all_nil, h1.lay, h2.lay, PyData.showableAll, h1.sw, h2.sw, Bool.and_true, decide_eq_true hd, decide_eq_true hlen]
theorem shw_pls : ∀ k : Nat, k < 27 → shwB (.tuple [.str (Str.ofString "place"), .int ((k : Int) - 1)]) = true := by decide +kernel
theorem shw_pl {n : Int} (h : -1 ≤ n ∧ n ≤ 25) : Shw (.tuple [.str (Str.ofString "place"), .int n]) := by
  have := shw_of (shw_pls (n + 1).toNat (by omega))
  rwa [show (((n + 1).toNat : Nat) : Int) - 1 = n by omega] at this
theorem shw_b1 : ∀ b : Nat, b < 25 → shwB (.list [.str (Str.ofString "place"), .int (b : Int)]) = true := by decide +kernel
theorem shw_b2 : ∀ b : Nat, b < 25 → shwB (.tuple [.str (Str.ofString "places"), .int (b : Int)]) = true := by decide +kernel
theorem shw_b3 : ∀ b : Nat, b < 25 → shwB (.tuple [.str (Str.ofString "place"), .int (b : Int), .int 0]) = true := by decide +kernel
theorem shw_b4 : ∀ b : Nat, b < 25 → shwB (.tuple [.str (Str.ofString "place"), .tuple [.int (b : Int)]]) = true := by decide +kernel
theorem shw_b5 : ∀ b : Nat, b < 25 → shwB (.tuple [.str (Str.ofString "place"), .list [.int (b : Int)]]) = true := by decide +kernel
section
variable {m : Int} {ts : List (Int × Int)} {rows : List (List Int)}
def NoCor (m : Int) (ts : List (Int × Int)) (rows : List (List Int)) (d : D) : Prop := sem_is_corner_0de1 [.fz (webD m ts), .fz (orderD rows), .fz d] = some (.ok (.val (.bool false)), [.fz (webD m ts), .fz (orderD rows), .fz d])
theorem noCor_of {d : D} (h : Oks sem_is_corner_0de1 [.fz (webD m ts), .fz (orderD rows), .fz d] fun v ys => v = .ok (.val (.bool false)) ∧ ys = [.fz (webD m ts), .fz (orderD rows), .fz d]) : NoCor m ts rows d := by
  obtain ⟨_, _, e, rfl, rfl⟩ := h
  exact e
theorem nc_nt {d : D} (h1 : sem_is_whole_637d [.fz d] = some (.ok (.val (.bool false)), [.fz d])) (h2 : anyTy [.tuple] d = some false) : NoCor m ts rows d := noCor_of (by
  refine oks_def rfl ?_
  simp [-getElem?_pos, -List.getD_eq_getElem?_getD, -getElem?_neg, List.getElem?_cons_zero, List.getElem?_cons_succ, b_is_corner_0de1, h1, h2])
theorem nc_int {n : Int} (hl : ts.length ≤ 1000) (h : n < 0 ∨ 2 * (ts.length : Int) ≤ n) : NoCor m ts rows (.int n) := noCor_of (by
  obtain ⟨_, _, e1, rfl, rfl⟩ := is_whole_ok (n := n)
  have s1 : DL.SmM 2 (ts.length : Int) := smM_of (by omega) (by omega)
  refine oks_def rfl ?_
  by_cases h0 : 0 ≤ n
  · have h1 : ¬ n < 2 * (ts.length : Int) := by omega
    simp [-getElem?_pos, -List.getD_eq_getElem?_getD, -getElem?_neg, List.getElem?_cons_zero, List.getElem?_cons_succ, b_is_corner_0de1, e1, web_1, h0, h1, s1]
  · simp [-getElem?_pos, -List.getD_eq_getElem?_getD, -getElem?_neg, List.getElem?_cons_zero, List.getElem?_cons_succ, b_is_corner_0de1, e1, web_1, h0, s1])
theorem tup_nw {xs : List D} : sem_is_whole_637d [.fz (.tuple xs)] = some (.ok (.val (.bool false)), [.fz (.tuple xs)]) := whole_no (b := false) (c := false) rfl rfl rfl
theorem nc_len {xs : List D} (h : xs.length ≠ 2) : NoCor m ts rows (.tuple xs) := noCor_of (by
  have e1 := tup_nw (xs := xs)
  have a2 : anyTy [.tuple] (.tuple xs) = some true := rfl
  have gl : gLen [.fz (.tuple xs)] = some (.val (.int (xs.length : Int))) := by simp
  have gn : gNe [.fz (.int (xs.length : Int)), .fz (.int 2)] = some (.val (.bool true)) := by
    have : ¬ (xs.length : Int) = 2 := by omega
    rw [gNe_ii, decide_eq_false this]; rfl
  obtain ⟨N, hN⟩ : ∃ N : Int, N = (xs.length : Int) := ⟨_, rfl⟩
  rw [← hN] at gl gn
  refine oks_def rfl ?_
  simp [-getElem?_pos, -List.getD_eq_getElem?_getD, -getElem?_neg, List.getElem?_cons_zero, List.getElem?_cons_succ, b_is_corner_0de1, e1, a2, gl, gn, -gNe_ii])
theorem gl2 {x y : D} : gLen [.fz (.tuple [x, y])] = some (.val (.int 2)) := by simp
theorem nc_ne {x y : D} (h : gNe [.fz x, .fz (.str (Str.ofString "place"))] = some (.val (.bool true))) : NoCor m ts rows (.tuple [x, y]) := noCor_of (by
  have e1 := tup_nw (xs := [x, y])
  have a2 : anyTy [.tuple] (.tuple [x, y]) = some true := rfl
  refine oks_def rfl ?_
  simp [-getElem?_pos, -List.getD_eq_getElem?_getD, -getElem?_neg, List.getElem?_cons_zero, List.getElem?_cons_succ, b_is_corner_0de1, e1, a2, gl2, h])
theorem nc_w {y : D} (h : sem_is_whole_637d [.fz y] = some (.ok (.val (.bool false)), [.fz y])) : NoCor m ts rows (.tuple [.str (Str.ofString "place"), y]) := noCor_of (by
  have e1 := tup_nw (xs := [.str (Str.ofString "place"), y])
  have a2 : anyTy [.tuple] (.tuple [.str (Str.ofString "place"), y]) = some true := rfl
  refine oks_def rfl ?_
  simp [-getElem?_pos, -List.getD_eq_getElem?_getD, -getElem?_neg, List.getElem?_cons_zero, List.getElem?_cons_succ, b_is_corner_0de1, e1, a2, gl2, ne_pl, h])
theorem nc_pl {n : Int} (h : n < 0 ∨ m ≤ n ∨ (0 ≤ n ∧ n < m ∧ ∃ row, rows[n.toNat]? = some row ∧ row ≠ [])) : NoCor m ts rows (.tuple [.str (Str.ofString "place"), .int n]) := noCor_of (by
  have e1 := tup_nw (xs := [.str (Str.ofString "place"), .int n])
  obtain ⟨_, _, e2, rfl, rfl⟩ := is_whole_ok (n := n)
  have a2 : anyTy [.tuple] (.tuple [.str (Str.ofString "place"), .int n]) = some true := rfl
  have gt : gTup [] = some (.val (.tuple [])) := rfl
  refine oks_def rfl ?_
  by_cases h0 : 0 ≤ n
  · by_cases h1 : n < m
    · rcases h with h | h | ⟨_, _, row, hr, hn⟩
      · omega
      · omega
      · obtain ⟨p, rfl⟩ := Int.eq_ofNat_of_zero_le h0
        have hr : rows[p]? = some row := hr
        have g1 := orderD_get hr
        have g2 := eq_bare (row := row)
        have hE : row.isEmpty = false := by simpa using hn
        rw [hE] at g2
        simp [-getElem?_pos, -List.getD_eq_getElem?_getD, -getElem?_neg, List.getElem?_cons_zero, List.getElem?_cons_succ, b_is_corner_0de1, e1, a2, gl2, ne_pl, e2, web_0, h0, h1, orderD, g1, g2, gt]
    · simp [-getElem?_pos, -List.getD_eq_getElem?_getD, -getElem?_neg, List.getElem?_cons_zero, List.getElem?_cons_succ, b_is_corner_0de1, e1, a2, gl2, ne_pl, e2, web_0, h0, h1]
  · simp [-getElem?_pos, -List.getD_eq_getElem?_getD, -getElem?_neg, List.getElem?_cons_zero, List.getElem?_cons_succ, b_is_corner_0de1, e1, a2, gl2, ne_pl, e2, web_0, h0])
theorem gNe_of {a b : D} (ha : okD a = true) (hb : okD b = true) (he : PyData.eqv a b = false) : gNe [.fz a, .fz b] = some (.val (.bool true)) := by
  show (if okD a && okD b then some (RV.val (.bool (!PyData.eqv a b))) else none) = _
  rw [ha, hb, he]
  rfl
theorem okD_place : okD (.str (Str.ofString "place")) = true := by
  unfold okD
  have : PyData.strOk (Str.ofString "place") = true := by decide +kernel
  simp [PyData.canLay0, PyData.depth, this]
theorem okD_places : okD (.str (Str.ofString "places")) = true := by
  unfold okD
  have : PyData.strOk (Str.ofString "places") = true := by decide +kernel
  simp [PyData.canLay0, PyData.depth, this]
theorem okD_i0 : okD (.int 0) = true := rfl
theorem okD_l0 : okD (.list []) = true := by
  unfold okD
  simp [PyData.canLay0, PyData.canLayAll0, PyData.depth, PyData.depthAll]
/-- what is no corner, and can be shown -/
structure BadC (m : Int) (ts : List (Int × Int)) (rows : List (List Int)) (d : D) : Prop where
  sh : Shw d
  no : NoCor m ts rows d
theorem cor_shw {c : D} {p : Nat} (h : Cor m ts rows c p) (hm : m ≤ 25) (hl : ts.length ≤ 24) : Shw c := by
  cases h with
  | tie e p he hp => exact shw_int (by omega)
  | bare p hr hp => exact shw_pl (by omega)
end
end Lw
end

section
namespace Lw
open PySem DL
noncomputable def suite31e : S := (sSeq (sSet 3 (mOp gLst [(oE (mC (.bool false))), (oE (mC (.bool false))), (oE (mC (.bool false))), (oE (mC (.bool true)))])) (sSeq (sSet 3 (mOp gAdd [(oS 3), (oE (mOp gLst [(oE (mC (.bool false))), (oE (mC (.bool false))), (oE (mC (.bool false))), (oE (mC (.bool false)))]))])) (sSeq (sSet 3 (mOp gAdd [(oS 3), (oE (mOp gLst [(oE (mC (.bool false))), (oE (mC (.bool false))), (oE (mC (.bool false))), (oE (mC (.bool false)))]))])) (sSeq (sSet 3 (mOp gAdd [(oS 3), (oE (mOp gLst [(oE (mC (.bool false))), (oE (mC (.bool false))), (oE (mC (.bool false)))]))])) (sRet (mLc [4] (mOpL gRng1 [(oE (mC (.int 15)))]) (setN 4) (mTst (mOp gIx [(oS 3), (oS 4)])) (mRd 4)))))))
noncomputable def fnd31e : List D := [.bool false, .bool false, .bool false, .bool true, .bool false, .bool false, .bool false, .bool false, .bool false, .bool false, .bool false, .bool false, .bool false, .bool false, .bool false]
theorem fnd31e_ix {j : Nat} (hj : j < 15) : ixP fnd31e (j : Int) = some (.bool (decide (j = 3))) := ixP_nat (by
  have : j = 0 ∨ j = 1 ∨ j = 2 ∨ j = 3 ∨ j = 4 ∨ j = 5 ∨ j = 6 ∨ j = 7 ∨ j = 8 ∨ j = 9 ∨ j = 10 ∨ j = 11 ∨ j = 12 ∨ j = 13 ∨ j = 14 := by omega
  rcases this with rfl | rfl | rfl | rfl | rfl | rfl | rfl | rfl | rfl | rfl | rfl | rfl | rfl | rfl | rfl <;> rfl)
theorem suite31e_W (a b : D) : W suite31e [.frz false a, .frz false b, .non, .non, .non] fun o r => o = .ret (.new (.lst [.int 3])) ∧ ∃ x3 x4, r = [.frz false a, .frz false b, .non, x3, x4] := by
  have lb : (lineD : Nat) = 16777216 := rfl
  have l0 : gLst [.fz (.bool false), .fz (.bool false), .fz (.bool false), .fz (.bool true)] = some (.new (.lst [.bool false, .bool false, .bool false, .bool true])) := rfl
  have l1 : gLst [.fz (.bool false), .fz (.bool false), .fz (.bool false), .fz (.bool false)] = some (.new (.lst [.bool false, .bool false, .bool false, .bool false])) := rfl
  have l2 : gLst [.fz (.bool false), .fz (.bool false), .fz (.bool false)] = some (.new (.lst [.bool false, .bool false, .bool false])) := rfl
  obtain ⟨F, hF⟩ : ∃ F, F = fnd31e := ⟨_, rfl⟩
  have ix : ∀ j : Nat, j < 15 → ixP F (j : Int) = some (.bool (decide (j = 3))) := fun j hj => by rw [hF]; exact fnd31e_ix hj
  simp [-getElem?_pos, -List.getD_eq_getElem?_getD, -getElem?_neg, List.getElem?_cons_zero, List.getElem?_cons_succ, suite31e, l0, l1, l2, anyPin, lb]
  rw [show [PyData.bool false, .bool false, .bool false, .bool true, .bool false, .bool false, .bool false, .bool false, .bool false, .bool false, .bool false, .bool false, .bool false, .bool false, .bool false] = F from hF.symm]
  refine lcK_inv (fun j acc r => acc = (if j ≤ 3 then [] else [.int 3]) ∧ r = [.frz false a, .frz false b, .non, .own false (.lst F), .non]) (acc := []) (ds := rng 0 15) (n := 0) ⟨rfl, rfl⟩ (by rw [rng0_len, List.length_nil, lb]; decide) (fun j d acc r hd h => ?_) (fun zs r h => ?_)
  · obtain ⟨rfl, hj⟩ := rng0_get hd
    rw [Nat.zero_add] at h ⊢
    obtain ⟨rfl, rfl⟩ := h
    have hj : j < 15 := by omega
    have ij := ix j hj
    by_cases h9 : j = 3
    · subst h9
      have ij : ixP F 3 = some (.bool true) := ij
      simp [-getElem?_pos, -List.getD_eq_getElem?_getD, -getElem?_neg, List.getElem?_cons_zero, List.getElem?_cons_succ, ij]
    · have q : decide (j = 3) = false := decide_eq_false h9
      rw [q] at ij
      have e : (if j + 1 ≤ 3 then ([] : List D) else [.int 3]) = if j ≤ 3 then [] else [.int 3] := by
        by_cases h : j ≤ 3
        · rw [if_pos h, if_pos (by omega)]
        · rw [if_neg h, if_neg (by omega)]
      rw [e]
      simp [-getElem?_pos, -List.getD_eq_getElem?_getD, -getElem?_neg, List.getElem?_cons_zero, List.getElem?_cons_succ, ij]
  · rw [Nat.zero_add, rng0_len] at h
    obtain ⟨rfl, rfl⟩ := h
    exact ⟨rfl, _, _, rfl⟩
theorem suite31e_ok (a b : D) : ∃ x3 x4, suite31e [.frz false a, .frz false b, .non, .non, .non] = some (.ret (.new (.lst [.int 3])), [.frz false a, .frz false b, .non, x3, x4]) := by
  obtain ⟨_, _, e, rfl, x3, x4, rfl⟩ := suite31e_W a b
  exact ⟨x3, x4, e⟩

noncomputable def suite31t : S := (sSeq (sSet 3 (mOp gLst [(oE (mC (.bool false))), (oE (mC (.bool false))), (oE (mC (.bool false))), (oE (mC (.bool false)))])) (sSeq (sSet 3 (mOp gAdd [(oS 3), (oE (mOp gLst [(oE (mC (.bool false))), (oE (mC (.bool false))), (oE (mC (.bool false))), (oE (mC (.bool false)))]))])) (sSeq (sSet 3 (mOp gAdd [(oS 3), (oE (mOp gLst [(oE (mC (.bool false))), (oE (mC (.bool false))), (oE (mC (.bool false))), (oE (mC (.bool true)))]))])) (sSeq (sSet 3 (mOp gAdd [(oS 3), (oE (mOp gLst [(oE (mC (.bool false))), (oE (mC (.bool false))), (oE (mC (.bool false)))]))])) (sRet (mLc [4] (mOpL gRng1 [(oE (mC (.int 15)))]) (setN 4) (mTst (mOp gIx [(oS 3), (oS 4)])) (mRd 4)))))))
noncomputable def fnd31t : List D := [.bool false, .bool false, .bool false, .bool false, .bool false, .bool false, .bool false, .bool false, .bool false, .bool false, .bool false, .bool true, .bool false, .bool false, .bool false]
theorem fnd31t_ix {j : Nat} (hj : j < 15) : ixP fnd31t (j : Int) = some (.bool (decide (j = 11))) := ixP_nat (by
  have : j = 0 ∨ j = 1 ∨ j = 2 ∨ j = 3 ∨ j = 4 ∨ j = 5 ∨ j = 6 ∨ j = 7 ∨ j = 8 ∨ j = 9 ∨ j = 10 ∨ j = 11 ∨ j = 12 ∨ j = 13 ∨ j = 14 := by omega
  rcases this with rfl | rfl | rfl | rfl | rfl | rfl | rfl | rfl | rfl | rfl | rfl | rfl | rfl | rfl | rfl <;> rfl)
theorem suite31t_W (a b : D) : W suite31t [.frz false a, .frz false b, .non, .non, .non] fun o r => o = .ret (.new (.lst [.int 11])) ∧ ∃ x3 x4, r = [.frz false a, .frz false b, .non, x3, x4] := by
  have lb : (lineD : Nat) = 16777216 := rfl
  have l0 : gLst [.fz (.bool false), .fz (.bool false), .fz (.bool false), .fz (.bool false)] = some (.new (.lst [.bool false, .bool false, .bool false, .bool false])) := rfl
  have l1 : gLst [.fz (.bool false), .fz (.bool false), .fz (.bool false), .fz (.bool true)] = some (.new (.lst [.bool false, .bool false, .bool false, .bool true])) := rfl
  have l2 : gLst [.fz (.bool false), .fz (.bool false), .fz (.bool false)] = some (.new (.lst [.bool false, .bool false, .bool false])) := rfl
  obtain ⟨F, hF⟩ : ∃ F, F = fnd31t := ⟨_, rfl⟩
  have ix : ∀ j : Nat, j < 15 → ixP F (j : Int) = some (.bool (decide (j = 11))) := fun j hj => by rw [hF]; exact fnd31t_ix hj
  simp [-getElem?_pos, -List.getD_eq_getElem?_getD, -getElem?_neg, List.getElem?_cons_zero, List.getElem?_cons_succ, suite31t, l0, l1, l2, anyPin, lb]
  rw [show [PyData.bool false, .bool false, .bool false, .bool false, .bool false, .bool false, .bool false, .bool false, .bool false, .bool false, .bool false, .bool true, .bool false, .bool false, .bool false] = F from hF.symm]
  refine lcK_inv (fun j acc r => acc = (if j ≤ 11 then [] else [.int 11]) ∧ r = [.frz false a, .frz false b, .non, .own false (.lst F), .non]) (acc := []) (ds := rng 0 15) (n := 0) ⟨rfl, rfl⟩ (by rw [rng0_len, List.length_nil, lb]; decide) (fun j d acc r hd h => ?_) (fun zs r h => ?_)
  · obtain ⟨rfl, hj⟩ := rng0_get hd
    rw [Nat.zero_add] at h ⊢
    obtain ⟨rfl, rfl⟩ := h
    have hj : j < 15 := by omega
    have ij := ix j hj
    by_cases h9 : j = 11
    · subst h9
      have ij : ixP F 11 = some (.bool true) := ij
      simp [-getElem?_pos, -List.getD_eq_getElem?_getD, -getElem?_neg, List.getElem?_cons_zero, List.getElem?_cons_succ, ij]
    · have q : decide (j = 11) = false := decide_eq_false h9
      rw [q] at ij
      have e : (if j + 1 ≤ 11 then ([] : List D) else [.int 11]) = if j ≤ 11 then [] else [.int 11] := by
        by_cases h : j ≤ 11
        · rw [if_pos h, if_pos (by omega)]
        · rw [if_neg h, if_neg (by omega)]
      rw [e]
      simp [-getElem?_pos, -List.getD_eq_getElem?_getD, -getElem?_neg, List.getElem?_cons_zero, List.getElem?_cons_succ, ij]
  · rw [Nat.zero_add, rng0_len] at h
    obtain ⟨rfl, rfl⟩ := h
    exact ⟨rfl, _, _, rfl⟩
theorem suite31t_ok (a b : D) : ∃ x3 x4, suite31t [.frz false a, .frz false b, .non, .non, .non] = some (.ret (.new (.lst [.int 11])), [.frz false a, .frz false b, .non, x3, x4]) := by
  obtain ⟨_, _, e, rfl, x3, x4, rfl⟩ := suite31t_W a b
  exact ⟨x3, x4, e⟩

section
variable {m : Int} {ts : List (Int × Int)} {rows : List (List Int)} {c1 c2 : D} {p1 p2 : Nat}
set_option maxHeartbeats 4000000 in
theorem put_inR_ok (h1 : Cor m ts rows c1 p1) (h2 : Cor m ts rows c2 p2) (ht : TiesOk m ts) (hr : rows.length = m.toNat) (hm : 0 ≤ m ∧ m ≤ 1000) (hl : ts.length < 24) (hS : ∀ row ∈ rows, row.length ≤ 1000) :
    Oks sem_put_in_c1efR [.fz (webD m ts), .fz (orderD rows), .fz c1, .fz c2] fun v ys => v = .ok (.val (floorD m (putT ts p1 p2) (putRR rows p1 p2 c1 c2 ts.length))) ∧ ys = [.fz (webD m ts), .fz (orderD rows), .fz c1, .fz c2] := by
  have lb : (lineD : Nat) = 16777216 := rfl
  have l1 := h1.lt ht
  have l2 := h2.lt ht
  have q1 : p1 < rows.length := by omega
  have q2 : p2 < rows.length := by omega
  obtain ⟨_, _, e1, rfl, rfl⟩ := is_corner_ok h1 (by omega)
  obtain ⟨_, _, e2, rfl, rfl⟩ := is_corner_ok h2 (by omega)
  obtain ⟨_, _, e3, rfl, rfl⟩ := corner_place_ok h1
  obtain ⟨_, _, e4, rfl, rfl⟩ := corner_place_ok h2
  have g1 := getD_get q1
  have n1 : (rows.getD p1 []).length ≤ 1000 := hS _ (List.mem_of_getElem? g1)
  obtain ⟨_, _, e5, rfl, rfl⟩ := put_behind_ok (row := rows.getD p1 []) (n := 2 * (ts.length : Int)) h1 (by omega)
  have hS1 := putR_S (p := p1) (c := c1) (n := 2 * (ts.length : Int)) hS
  have g2 := getD_get (rows := putR rows p1 c1 (2 * (ts.length : Int))) (p := p2) (by rw [putR_len]; exact q2)
  have n2 : ((putR rows p1 c1 (2 * (ts.length : Int))).getD p2 []).length ≤ 1001 := hS1 _ (List.mem_of_getElem? g2)
  obtain ⟨_, _, e6, rfl, rfl⟩ := put_behind_ok (row := (putR rows p1 c1 (2 * (ts.length : Int))).getD p2 []) (n := 2 * (ts.length : Int) + 1) h2 (by omega)
  have hS2 := putR_S (p := p2) (c := c2) (n := 2 * (ts.length : Int) + 1) hS1
  have d1 := rowsD_get g1
  have d2 := rowsD_get g2
  have w1 : (rowsD rows).set p1 ((putI (rows.getD p1 []) (posC (rows.getD p1 []) c1) (2 * (ts.length : Int))).map .int) = rowsD (putR rows p1 c1 (2 * (ts.length : Int))) := rowsD_set
  have w2 : (rowsD (putR rows p1 c1 (2 * (ts.length : Int)))).set p2 ((putI ((putR rows p1 c1 (2 * (ts.length : Int))).getD p2 []) (posC ((putR rows p1 c1 (2 * (ts.length : Int))).getD p2 []) c2) (2 * (ts.length : Int) + 1)).map .int) = rowsD (putR (putR rows p1 c1 (2 * (ts.length : Int))) p2 c2 (2 * (ts.length : Int) + 1)) := rowsD_set
  have x1 : ixD (rowsD rows).length (p1 : Int) = some p1 := ixD_nat (by unfold rowsD; rw [List.length_map]; exact q1)
  have x2 : ixD (rowsD (putR rows p1 c1 (2 * (ts.length : Int)))).length (p2 : Int) = some p2 := ixD_nat (by unfold rowsD; rw [List.length_map, putR_len]; exact q2)
  have s1 : SmM 2 (ts.length : Int) := smM_of (by omega) (by omega)
  have t1 : ¬ ((ts.length : Int) = 24) := by omega
  have t2 : ts.length + 1 ≤ lineD := by omega
  generalize rows.getD p1 [] = r1 at *
  generalize (putR rows p1 c1 (2 * (ts.length : Int))).getD p2 [] = r2 at *
  simp only [webD, orderD] at e1 e2 e3 e4 ⊢
  refine oks_def rfl ?_
  simp [-getElem?_pos, -getElem?_neg, List.getElem?_cons_zero, List.getElem?_cons_succ, b_put_in_c1efR, e1, e2, t1, anyPin]
  refine lcLK_map dsI (fun d hd => ?_) (by simp; omega) ?_
  · obtain ⟨row, hrow, rfl⟩ := List.mem_map.mp hd
    simp [-getElem?_pos, -getElem?_neg, List.getElem?_cons_zero, List.getElem?_cons_succ, dsI]
  · rw [List.nil_append, listI]
    simp [-getElem?_pos, -getElem?_neg, List.getElem?_cons_zero, List.getElem?_cons_succ, e3, e4, x1, x2, d1, d2, e5, e6, w1, w2, s1]
    refine ⟨t2, by simp [anyPin, putSl.pinnedB], ?_⟩
    refine lcK_map begE (fun d hd => ?_) (by simp [rowsD, putR_len]; omega) ?_
    · obtain ⟨ds, hds, rfl⟩ := List.mem_map.mp hd
      unfold rowsD at hds
      obtain ⟨row, hrow, rfl⟩ := List.mem_map.mp hds
      have hlen := hS2 row hrow
      obtain ⟨_, _, f1, rfl, rfl⟩ := begun_ok (row := row) (by omega)
      have b1 := begDD_i row
      simp [-getElem?_pos, -getElem?_neg, List.getElem?_cons_zero, List.getElem?_cons_succ, f1, begE, b1]
    · rw [begE_map]
      unfold floorD putRR putT webD orderD
      rw [List.map_append]
      rfl

/-- a corner, or none -/
def CorD (m : Int) (ts : List (Int × Int)) (rows : List (List Int)) (c : D) : Prop := ∃ p, Cor m ts rows c p
theorem put_inR_no (hl : ts.length ≤ 1000) (h : BadC m ts rows c1 ∨ (CorD m ts rows c1 ∧ BadC m ts rows c2)) : sem_put_in_c1efR [.fz (webD m ts), .fz (orderD rows), .fz c1, .fz c2] = some (.exc ⟨"NoEnd", none⟩, [.fz (webD m ts), .fz (orderD rows), .fz c1, .fz c2]) := by
  have : Oks sem_put_in_c1efR [.fz (webD m ts), .fz (orderD rows), .fz c1, .fz c2] fun v ys => v = .exc ⟨"NoEnd", none⟩ ∧ ys = [.fz (webD m ts), .fz (orderD rows), .fz c1, .fz c2] := by
    rcases h with h | ⟨⟨p, h1⟩, h⟩
    · have e1 : sem_is_corner_0de1 [.fz (webD m ts), .fz (orderD rows), .fz c1] = some (.ok (.val (.bool false)), [.fz (webD m ts), .fz (orderD rows), .fz c1]) := h.no
      obtain ⟨O1, hO1⟩ : ∃ C, C = orderD rows := ⟨_, rfl⟩
      rw [← hO1] at e1 ⊢
      refine oks_def rfl ?_
      simp [-getElem?_pos, -List.getD_eq_getElem?_getD, -getElem?_neg, List.getElem?_cons_zero, List.getElem?_cons_succ, b_put_in_c1efR, e1]
    · obtain ⟨_, _, e1, rfl, rfl⟩ := is_corner_ok h1 hl
      have e2 : sem_is_corner_0de1 [.fz (webD m ts), .fz (orderD rows), .fz c2] = some (.ok (.val (.bool false)), [.fz (webD m ts), .fz (orderD rows), .fz c2]) := h.no
      obtain ⟨O1, hO1⟩ : ∃ C, C = orderD rows := ⟨_, rfl⟩
      rw [← hO1] at e1 e2 ⊢
      refine oks_def rfl ?_
      simp [-getElem?_pos, -List.getD_eq_getElem?_getD, -getElem?_neg, List.getElem?_cons_zero, List.getElem?_cons_succ, b_put_in_c1efR, e1, e2]
  obtain ⟨_, _, e, rfl, rfl⟩ := this
  exact e
theorem put_inR_tg (h1 : Cor m ts rows c1 p1) (h2 : Cor m ts rows c2 p2) (hl : ts.length = 24) : sem_put_in_c1efR [.fz (webD m ts), .fz (orderD rows), .fz c1, .fz c2] = some (.exc ⟨"TooGreat", none⟩, [.fz (webD m ts), .fz (orderD rows), .fz c1, .fz c2]) := by
  have : Oks sem_put_in_c1efR [.fz (webD m ts), .fz (orderD rows), .fz c1, .fz c2] fun v ys => v = .exc ⟨"TooGreat", none⟩ ∧ ys = [.fz (webD m ts), .fz (orderD rows), .fz c1, .fz c2] := by
    obtain ⟨_, _, e1, rfl, rfl⟩ := is_corner_ok h1 (by omega)
    obtain ⟨_, _, e2, rfl, rfl⟩ := is_corner_ok h2 (by omega)
    have wu : ∀ (fs : List (D → S)) (r : Ro) (Q : SO → Ro → Prop), W (setT fs (webD m ts)) r Q ↔ W (sets fs [.int m, .tuple (ts.map tieD)]) r Q := fun _ _ _ => Iff.rfl
    have gl : gLen [.fz (.tuple (ts.map tieD))] = some (.val (.int 24)) := by simp [hl]
    have ge : gEq [.fz (.int 24), .fz (.int 24)] = some (.val (.bool true)) := by simp
    obtain ⟨TS, hTS⟩ : ∃ C, C = ts.map tieD := ⟨_, rfl⟩
    obtain ⟨O1, hO1⟩ : ∃ C, C = orderD rows := ⟨_, rfl⟩
    rw [← hO1] at e1 e2 ⊢
    rw [← hTS] at gl wu
    refine oks_def rfl ?_
    simp [-getElem?_pos, -List.getD_eq_getElem?_getD, -getElem?_neg, List.getElem?_cons_zero, List.getElem?_cons_succ, b_put_in_c1efR, e1, e2, wu, gl, ge]
  obtain ⟨_, _, e, rfl, rfl⟩ := this
  exact e
end
noncomputable def tbl31 : List (Str × Sem) := [("_law_refused", sem_Lrefused_b97aR)]
def resV1 : Option Int → RV
  | none => .val .none
  | some k => .new (.lst [.int k])
def resD1 : Option Int → D
  | none => .none
  | some k => .list [.int k]
theorem resV1_data (c : Option Int) : (resV1 c).data = some (resD1 c) := by cases c <;> rfl
def out31 (f : Sem) (as : List Rs) : Option Int → Prop
  | none => ∃ v, f as = some (.ok v, as)
  | some k => (k = 3 ∧ f as = some (.exc ⟨"NoEnd", none⟩, as)) ∨ (k = 11 ∧ f as = some (.exc ⟨"TooGreat", none⟩, as))
theorem exSelS_3 {x y : String} {a b : S} (h : y ≠ x) : exSelS x a b y = b := if_neg h
theorem ref31x {x : Str} {d : D} {c : Option Int} (hx : tbl31.lookup x = some sem_Lrefused_b97aR) (h : out31 sem_Lrefused_b97aR [.fz d] c) : sem_Lrefusal_9f4eR [.fz (fnD x), .fz d] = some (.ok (resV1 c), [.fz (fnD x), .fz d]) := by
  have hb : b_Lrefusal_9f4eR = sSeq (sTryS (sDrop (mCallV 0 tbl31 [(oE (mRd 1))])) ["NoEnd", "TooGreat"] 2 (exSelS "NoEnd" suite31e suite31t)) (sRet (mC .none)) := rfl
  have : Oks sem_Lrefusal_9f4eR [.fz (fnD x), .fz d] fun v ys => v = .ok (resV1 c) ∧ ys = [.fz (fnD x), .fz d] := by
    refine oks_def rfl ?_
    rw [hb]
    obtain ⟨x3, x4, es⟩ := suite31e_ok (fnD x) d
    obtain ⟨y3, y4, et⟩ := suite31t_ok (fnD x) d
    obtain ⟨U, hU⟩ : ∃ U, U = suite31e := ⟨_, rfl⟩
    obtain ⟨V, hV⟩ : ∃ U, U = suite31t := ⟨_, rfl⟩
    rw [← hU] at es ⊢
    rw [← hV] at et ⊢
    cases c with
    | none =>
      obtain ⟨v, e⟩ := h
      simp [-getElem?_pos, -List.getD_eq_getElem?_getD, -getElem?_neg, List.getElem?_cons_zero, List.getElem?_cons_succ, hx, e, resV1]
    | some k =>
      rcases h with ⟨rfl, e⟩ | ⟨rfl, e⟩
      · simp [-getElem?_pos, -List.getD_eq_getElem?_getD, -getElem?_neg, List.getElem?_cons_zero, List.getElem?_cons_succ, hx, e, resV1, W_some es]
      · have e2 : exSelS "NoEnd" U V "TooGreat" = V := exSelS_3 (by decide)
        simp [-getElem?_pos, -List.getD_eq_getElem?_getD, -getElem?_neg, List.getElem?_cons_zero, List.getElem?_cons_succ, hx, e, resV1, e2, W_some et]
  obtain ⟨_, _, e, rfl, rfl⟩ := this
  exact e
theorem ref31 {d : D} {c : Option Int} (h : out31 sem_Lrefused_b97aR [.fz d] c) : sem_Lrefusal_9f4eR [.fz (fnD "_law_refused"), .fz d] = some (.ok (resV1 c), [.fz (fnD "_law_refused"), .fz d]) := ref31x rfl h
theorem wrap31 {w o d1 d2 : D} {c : Option Int} (h : out31 sem_put_in_c1efR [.fz w, .fz o, .fz d1, .fz d2] c) : out31 sem_Lrefused_b97aR [.fz (.tuple [w, o, d1, d2])] c := by
  have wu : ∀ (fs : List (D → S)) (r : Ro) (Q : SO → Ro → Prop), W (setT fs (.tuple [w, o, d1, d2])) r Q ↔ W (sets fs [w, o, d1, d2]) r Q := fun _ _ _ => Iff.rfl
  cases c with
  | none =>
    obtain ⟨v, e⟩ := h
    have : Oks sem_Lrefused_b97aR [.fz (.tuple [w, o, d1, d2])] fun u ys => (∃ v, u = .ok v) ∧ ys = [.fz (.tuple [w, o, d1, d2])] := by
      refine oks_def rfl ?_
      simp [-getElem?_pos, -List.getD_eq_getElem?_getD, -getElem?_neg, List.getElem?_cons_zero, List.getElem?_cons_succ, b_Lrefused_b97aR, wu, e]
    obtain ⟨_, _, e2, ⟨v, rfl⟩, rfl⟩ := this
    exact ⟨v, e2⟩
  | some k =>
    rcases h with ⟨rfl, e⟩ | ⟨rfl, e⟩
    · have : Oks sem_Lrefused_b97aR [.fz (.tuple [w, o, d1, d2])] fun u ys => u = .exc ⟨"NoEnd", none⟩ ∧ ys = [.fz (.tuple [w, o, d1, d2])] := by
        refine oks_def rfl ?_
        simp [-getElem?_pos, -List.getD_eq_getElem?_getD, -getElem?_neg, List.getElem?_cons_zero, List.getElem?_cons_succ, b_Lrefused_b97aR, wu, e]
      obtain ⟨_, _, e2, rfl, rfl⟩ := this
      exact .inl ⟨rfl, e2⟩
    · have : Oks sem_Lrefused_b97aR [.fz (.tuple [w, o, d1, d2])] fun u ys => u = .exc ⟨"TooGreat", none⟩ ∧ ys = [.fz (.tuple [w, o, d1, d2])] := by
        refine oks_def rfl ?_
        simp [-getElem?_pos, -List.getD_eq_getElem?_getD, -getElem?_neg, List.getElem?_cons_zero, List.getElem?_cons_succ, b_Lrefused_b97aR, wu, e]
      obtain ⟨_, _, e2, rfl, rfl⟩ := this
      exact .inr ⟨rfl, e2⟩
end Lw
end

section
namespace Lw
open PySem DL
section
variable {m : Int} {ts : List (Int × Int)} {rows : List (List Int)}
theorem ne_of_eq_no {a b : D} (h : gEq [.fz a, .fz b] = some (.val (.bool false))) : gNe [.fz a, .fz b] = some (.val (.bool true)) := by
  have h : (if okD a && okD b then some (RV.val (.bool (PyData.eqv a b))) else none) = some (.val (.bool false)) := h
  split at h
  · rename_i ok
    have he : PyData.eqv a b = false := by
      injection h with h
      injection h with h
      injection h
    show (if okD a && okD b then some (RV.val (.bool (!PyData.eqv a b))) else none) = _
    rw [if_pos ok, he]
    rfl
  · cases h
def fullF (rows : List (List Int)) : D → Option D
  | .int k => if rows[k.toNat]? = some [] then none else some (.int k)
  | _ => none
theorem full_mem {d : D} (hm : 0 ≤ m) (hr : rows.length = m.toNat) (h : d ∈ (rng 0 m).filterMap (fullF rows)) : ∃ n : Int, d = .int n ∧ 0 ≤ n ∧ n < m ∧ ∃ row, rows[n.toNat]? = some row ∧ row ≠ [] := by
  obtain ⟨d0, h1, h2⟩ := List.mem_filterMap.mp h
  obtain ⟨k, rfl, hk⟩ := rng0_mem h1
  have h2 : (if rows[((k : Nat) : Int).toNat]? = some [] then none else some (PyData.int k)) = some d := h2
  split at h2
  · cases h2
  · rename_i hh
    cases h2
    refine ⟨k, rfl, by omega, by omega, ?_⟩
    obtain ⟨row, hrow⟩ : ∃ row, rows[k]? = some row := ⟨_, List.getElem?_eq_getElem (by omega)⟩
    refine ⟨row, hrow, fun z => hh ?_⟩
    rw [z] at hrow
    exact hrow
set_option maxHeartbeats 16000000 in
theorem Lbad31_ok {n : Nat} {p : List D} (hp : Pen n p) (hn : n ≤ 100000) (hm : 1 ≤ m ∧ m ≤ 25) (ho : OrdN m ts (2 * ts.length) rows) (hl : ts.length ≤ 24) :
    Oks sem_Lbad_34c0 [.ow (.lst p), .fz (webD m ts), .fz (orderD rows)] fun v ys => ∃ d p', v = .ok (.val d) ∧ ys = [.ow (.lst p'), .fz (webD m ts), .fz (orderD rows)] ∧ BadC m ts rows d ∧ Pen (n + 4) p' := by
  have lb : (lineD : Nat) = 16777216 := rfl
  have o1 : -4611686018427387904 ≤ m := by omega
  have o2 : m < 4611686018427387904 := by omega
  have s1 : DL.SmM 2 (ts.length : Int) := smM_of (by omega) (by omega)
  have gt0 : gTup [] = some (.val (.tuple [])) := rfl
  obtain ⟨P, hP⟩ : ∃ P : EO RV → List Rs → Prop, P = fun v ys => ∃ d p', v = .ok (.val d) ∧ ys = [.ow (.lst p'), .fz (webD m ts), .fz (orderD rows)] ∧ BadC m ts rows d ∧ Pen (n + 4) p' := ⟨_, rfl⟩
  rw [← hP]
  have w0 : gIx [.fz (webD m ts), .fz (.int 0)] = some (.val (.int m)) := web_0
  have w1 : gIx [.fz (webD m ts), .fz (.int 1)] = some (.val (.tuple (ts.map tieD))) := web_1
  obtain ⟨E, hE⟩ : ∃ E : Int, E = 2 * (ts.length : Int) := ⟨_, rfl⟩
  have gl : gLen [.fz (.tuple (ts.map tieD))] = some (.val (.int (ts.length : Int))) := by simp
  have gm : gMul [.fz (.int 2), .fz (.int (ts.length : Int))] = some (.val (.int E)) := by rw [hE]; simp [s1]
  have fulls := fun d hd => full_mem (m := m) (rows := rows) (d := d) (by omega) ho.len hd
  have bares := fun d hd => bare_mem (m := m) (rows := rows) (d := d) (by omega) ho.len hd
  have hLf : ((rng 0 m).filterMap (fullF rows)).length ≤ 25 := by
    have := List.length_filterMap_le (fullF rows) (rng 0 m)
    rw [rng0_len] at this
    omega
  have hLb : ((rng 0 m).filterMap (bareF rows)).length ≤ 25 := by
    have := List.length_filterMap_le (bareF rows) (rng 0 m)
    rw [rng0_len] at this
    omega
  have ix := fun (k : Nat) (hk : k < m.toNat) => show ∃ row, rows[k]? = some row from ⟨_, List.getElem?_eq_getElem (by rw [ho.len]; omega)⟩
  -- the rest, from the lists of places on
  obtain ⟨R4, hR4⟩ : ∃ R : S, R = (sSeq (sSet 6 (mOp gIx [(oS 4), (oE (mCall sem_Ldraw_de5b [(oS 0), (oE (mOp gLen [(oS 4)]))]))]))
    (sSeq (sSet 7 (mOp gLst [(oE (mOp gSub [(oE (mOp gNeg [(oE (mC (.int 1)))])), (oE (mCall sem_Ldraw_de5b [(oS 0), (oE (mC (.int 9)))]))])), (oE (mRd 3)), (oE (mOp gAdd [(oS 3), (oE (mCall sem_Ldraw_de5b [(oS 0), (oE (mOp gPow [(oE (mC (.int 10))), (oE (mC (.int 59)))]))]))])), (oE (mC (.bool true))), (oE (mC (.bool false))), (oE (mC .none)), (oE (mC (.str (Str.ofString "0")))), (oE (mC (.str (Str.ofString "place")))), (oE (mC (.str (Str.ofString ""))))]))
    (sSeq (sSet 7 (mOp gAdd [(oS 7), (oE (mOp gLst [(oE mE0), (oE (mOp gLst [])), (oE (mOp gTup [])), (oE (mOp gTup [(oE (mC (.str (Str.ofString "place")))), (oE (mC (.bool true)))])), (oE (mOp gTup [(oE (mC (.str (Str.ofString "place")))), (oE (mC (.bool false)))]))]))]))
    (sSeq (sSet 7 (mOp gAdd [(oS 7), (oE (mOp gLst [(oE (mOp gTup [(oE (mC (.str (Str.ofString "place"))))])), (oE (mOp gTup [(oE (mC (.str (Str.ofString "place")))), (oE (mRd 6))])), (oE (mOp gLst [(oE (mC (.str (Str.ofString "place")))), (oE (mOp gIx [(oS 5), (oE (mC (.int 0)))]))])), (oE (mOp gTup [(oE (mC (.str (Str.ofString "places")))), (oE (mOp gIx [(oS 5), (oE (mC (.int 0)))]))])), (oE (mOp gTup [(oE (mC (.str (Str.ofString "place")))), (oE (mOp gIx [(oS 5), (oE (mC (.int 0)))])), (oE (mC (.int 0)))]))]))]))
    (sSeq (sSet 7 (mOp gAdd [(oS 7), (oE (mOp gLst [(oE (mOp gTup [(oE (mC (.str (Str.ofString "place")))), (oE (mC .none))])), (oE (mOp gTup [(oE (mC (.str (Str.ofString "place")))), (oE (mC (.str (Str.ofString "0"))))])), (oE (mOp gTup [(oE (mC (.int 0)))])), (oE (mOp gLst [(oE (mC (.int 0)))])), (oE (mOp gTup [(oE (mC (.int 0))), (oE (mC (.str (Str.ofString "place"))))])), (oE (mOp gTup [(oE (mC (.str (Str.ofString "place")))), (oE (mOp gTup [(oE (mOp gIx [(oS 5), (oE (mC (.int 0)))]))]))])), (oE (mOp gTup [(oE (mC (.str (Str.ofString "place")))), (oE (mOp gIx [(oS 1), (oE (mC (.int 0)))]))]))]))]))
    (sSeq (sSet 7 (mOp gAdd [(oS 7), (oE (mOp gLst [(oE (mOp gTup [(oE (mC (.str (Str.ofString "place")))), (oE (mOp gLst [(oE (mOp gIx [(oS 5), (oE (mC (.int 0)))]))]))])), (oE (mOp gTup [(oE (mC (.str (Str.ofString "place")))), (oE mE0)])), (oE (mOp gTup [(oE (mOp gLst [])), (oE (mC (.int 0)))]))]))]))
    (sRet (mOp gIx [(oS 7), (oE (mCall sem_Ldraw_de5b [(oS 0), (oE (mOp gLen [(oS 7)]))]))])))))))) := ⟨_, rfl⟩
  have hb : b_Lbad_34c0 = (sSeq (sSet 3 (mOp gMul [(oE (mC (.int 2))), (oE (mOp gLen [(oE (mOp gIx [(oS 1), (oE (mC (.int 1)))]))]))]))
    (sSeq (sSet 4 (mOp gAdd [(oE (mLc [6] (mOpL gRng1 [(oE (mOp gIx [(oS 1), (oE (mC (.int 0)))]))]) (setN 6) (mTst (mOp gNe [(oE (mOp gIx [(oS 2), (oS 6)])), (oE (mOp gTup []))])) (mRd 6))), (oE (mOp gLst [(oE (mOp gIx [(oS 1), (oE (mC (.int 0)))])), (oE (mOp gNeg [(oE (mC (.int 1)))]))]))]))
    (sSeq (sSet 5 (mOp gAdd [(oE (mLc [6] (mOpL gRng1 [(oE (mOp gIx [(oS 1), (oE (mC (.int 0)))]))]) (setN 6) (mTst (mOp gEq [(oE (mOp gIx [(oS 2), (oS 6)])), (oE (mOp gTup []))])) (mRd 6))), (oE (mOp gLst [(oE (mC (.int 0)))]))]))
    R4))) := by rw [hR4]; rfl
  have rest : ∀ (F B : List D), (∀ d ∈ F, ∃ k : Int, d = .int k ∧ -1 ≤ k ∧ k ≤ 25 ∧ (k < 0 ∨ m ≤ k ∨ (0 ≤ k ∧ k < m ∧ ∃ row, rows[k.toNat]? = some row ∧ row ≠ []))) → 0 < F.length → F.length ≤ 100 → (∃ b : Nat, b < 25 ∧ ixP B 0 = some (.int (b : Int))) →
      W R4 [.own true (.lst p), .frz false (webD m ts), .frz false (orderD rows), .frz false (.int E), .own false (.lst F), .own false (.lst B), .non, .non] (retP [.ow (.lst p), .fz (webD m ts), .fz (orderD rows)] P) := by
    intro F B hF hF0 hF1 ⟨b, hb25, hB⟩
    obtain ⟨_, _, e1, x, q1, rfl, rfl, x0, x1, hq1⟩ := draw_ok hp (by omega) (m := (F.length : Int)) (by omega)
    obtain ⟨dk, hdk, hix⟩ := ix_mem (ds := F) x0 x1
    obtain ⟨k, rfl, k0, k1, hk⟩ := hF dk hdk
    obtain ⟨_, _, e2, a, q2, rfl, rfl, a0, a1, hq2⟩ := draw_ok hq1 (by omega) (m := 9) (by omega)
    obtain ⟨_, _, e3, y, q3, rfl, rfl, y0, y1, hq3⟩ := draw_big hq2 (by omega) (m := 100000000000000000000000000000000000000000000000000000000000) (by omega)
    obtain ⟨_, _, e4, c, q4, rfl, rfl, c0, c1, hq4⟩ := draw_ok hq3 (by omega) (m := 29) (by omega)
    obtain ⟨PL, hPL⟩ : ∃ s : Str, s = Str.ofString "place" := ⟨_, rfl⟩
    obtain ⟨PS, hPS⟩ : ∃ s : Str, s = Str.ofString "places" := ⟨_, rfl⟩
    obtain ⟨Z0, hZ0⟩ : ∃ s : Str, s = Str.ofString "0" := ⟨_, rfl⟩
    obtain ⟨ZE, hZE⟩ : ∃ s : Str, s = Str.ofString "" := ⟨_, rfl⟩
    obtain ⟨L, hL⟩ : ∃ L : List D, L = [.int (-1 - a), .int E, .int (E + y), .bool true, .bool false, .none, .str Z0, .str PL, .str ZE, .dict [], .list [], .tuple [], .tuple [.str PL, .bool true], .tuple [.str PL, .bool false],
      .tuple [.str PL], .tuple [.str PL, .int k], .list [.str PL, .int (b : Int)], .tuple [.str PS, .int (b : Int)], .tuple [.str PL, .int (b : Int), .int 0], .tuple [.str PL, .none], .tuple [.str PL, .str Z0], .tuple [.int 0], .list [.int 0], .tuple [.int 0, .str PL], .tuple [.str PL, .tuple [.int (b : Int)]], .tuple [.str PL, .int m],
      .tuple [.str PL, .list [.int (b : Int)]], .tuple [.str PL, .dict []], .tuple [.list [], .int 0]] := ⟨_, rfl⟩
    obtain ⟨d, hd, hbad⟩ : ∃ d, ixP L c = some d ∧ BadC m ts rows d := by
      have : c = 0 ∨ c = 1 ∨ c = 2 ∨ c = 3 ∨ c = 4 ∨ c = 5 ∨ c = 6 ∨ c = 7 ∨ c = 8 ∨ c = 9 ∨ c = 10 ∨ c = 11 ∨ c = 12 ∨ c = 13 ∨ c = 14 ∨ c = 15 ∨ c = 16 ∨ c = 17 ∨ c = 18 ∨ c = 19 ∨ c = 20 ∨ c = 21 ∨ c = 22 ∨ c = 23 ∨ c = 24 ∨ c = 25 ∨ c = 26 ∨ c = 27 ∨ c = 28 := by omega
      rw [hL]
      subst hPL hPS hZ0 hZE
      have sb := fun d => @shw_of d
      rcases this with rfl | rfl | rfl | rfl | rfl | rfl | rfl | rfl | rfl | rfl | rfl | rfl | rfl | rfl | rfl | rfl | rfl | rfl | rfl | rfl | rfl | rfl | rfl | rfl | rfl | rfl | rfl | rfl | rfl
      · exact ⟨_, rfl, shw_int (by omega), nc_int (by omega) (.inl (by omega))⟩
      · exact ⟨_, rfl, shw_int (by omega), nc_int (by omega) (.inr (by omega))⟩
      · exact ⟨_, rfl, shw_int (by omega), nc_int (by omega) (.inr (by omega))⟩
      · exact ⟨_, rfl, shw_of (by decide +kernel), nc_nt (whole_no (b := true) (c := true) rfl rfl rfl) rfl⟩
      · exact ⟨_, rfl, shw_of (by decide +kernel), nc_nt (whole_no (b := true) (c := true) rfl rfl rfl) rfl⟩
      · exact ⟨_, rfl, shw_of (by decide +kernel), nc_nt (whole_no (b := false) (c := false) rfl rfl rfl) rfl⟩
      · exact ⟨_, rfl, shw_of (by decide +kernel), nc_nt (whole_no (b := false) (c := false) rfl rfl rfl) rfl⟩
      · exact ⟨_, rfl, shw_of (by decide +kernel), nc_nt (whole_no (b := false) (c := false) rfl rfl rfl) rfl⟩
      · exact ⟨_, rfl, shw_of (by decide +kernel), nc_nt (whole_no (b := false) (c := false) rfl rfl rfl) rfl⟩
      · exact ⟨_, rfl, shw_of (by decide +kernel), nc_nt (whole_no (b := false) (c := false) rfl rfl rfl) rfl⟩
      · exact ⟨_, rfl, shw_of (by decide +kernel), nc_nt (whole_no (b := false) (c := false) rfl rfl rfl) rfl⟩
      · exact ⟨_, rfl, shw_of (by decide +kernel), nc_len (by decide)⟩
      · exact ⟨_, rfl, shw_of (by decide +kernel), nc_w (whole_no (b := true) (c := true) rfl rfl rfl)⟩
      · exact ⟨_, rfl, shw_of (by decide +kernel), nc_w (whole_no (b := true) (c := true) rfl rfl rfl)⟩
      · exact ⟨_, rfl, shw_of (by decide +kernel), nc_len (by simp)⟩
      · exact ⟨_, rfl, shw_pl ⟨k0, k1⟩, nc_pl hk⟩
      · exact ⟨_, rfl, shw_of (shw_b1 b hb25), nc_nt (whole_no (b := false) (c := false) rfl rfl rfl) rfl⟩
      · exact ⟨_, rfl, shw_of (shw_b2 b hb25), nc_ne (gNe_of okD_places okD_place (by decide +kernel))⟩
      · exact ⟨_, rfl, shw_of (shw_b3 b hb25), nc_len (by simp)⟩
      · exact ⟨_, rfl, shw_of (by decide +kernel), nc_w (whole_no (b := false) (c := false) rfl rfl rfl)⟩
      · exact ⟨_, rfl, shw_of (by decide +kernel), nc_w (whole_no (b := false) (c := false) rfl rfl rfl)⟩
      · exact ⟨_, rfl, shw_of (by decide +kernel), nc_len (by simp)⟩
      · exact ⟨_, rfl, shw_of (by decide +kernel), nc_nt (whole_no (b := false) (c := false) rfl rfl rfl) rfl⟩
      · exact ⟨_, rfl, shw_of (by decide +kernel), nc_ne (gNe_of okD_i0 okD_place (by decide +kernel))⟩
      · exact ⟨_, rfl, shw_of (shw_b4 b hb25), nc_w (whole_no (b := false) (c := false) rfl rfl rfl)⟩
      · exact ⟨_, rfl, shw_pl (by omega), nc_pl (.inr (.inl (by omega)))⟩
      · exact ⟨_, rfl, shw_of (shw_b5 b hb25), nc_w (whole_no (b := false) (c := false) rfl rfl rfl)⟩
      · exact ⟨_, rfl, shw_of (by decide +kernel), nc_w (whole_no (b := false) (c := false) rfl rfl rfl)⟩
      · exact ⟨_, rfl, shw_of (by decide +kernel), nc_ne (gNe_of okD_l0 okD_place (by decide +kernel))⟩
    have res : P (.ok (.val d)) [.ow (.lst q4), .fz (webD m ts), .fz (orderD rows)] := by rw [hP]; exact ⟨d, q4, rfl, rfl, hbad, hq4⟩
    have t1 : ∀ x : D, gTup [.fz x] = some (.val (.tuple [x])) := fun _ => rfl
    have t2 : ∀ x y : D, gTup [.fz x, .fz y] = some (.val (.tuple [x, y])) := fun _ _ => rfl
    have t3 : ∀ x y z : D, gTup [.fz x, .fz y, .fz z] = some (.val (.tuple [x, y, z])) := fun _ _ _ => rfl
    have l0 : gLst [] = some (.new (.lst [])) := rfl
    have l1 : ∀ x : D, gLst [.fz x] = some (.new (.lst [x])) := fun _ => rfl
    have l2 : ∀ x y : D, gLst [.fz x, .fz y] = some (.new (.lst [x, y])) := fun _ _ => rfl
    have l3 : ∀ x y z : D, gLst [.fz x, .fz y, .fz z] = some (.new (.lst [x, y, z])) := fun _ _ _ => rfl
    have l5 : ∀ a b c d e : D, gLst [.fz a, .fz b, .fz c, .fz d, .fz e] = some (.new (.lst [a, b, c, d, e])) := fun _ _ _ _ _ => rfl
    have l7 : ∀ a b c d e f g : D, gLst [.fz a, .fz b, .fz c, .fz d, .fz e, .fz f, .fz g] = some (.new (.lst [a, b, c, d, e, f, g])) := fun _ _ _ _ _ _ _ => rfl
    have l9 : ∀ a b c d e f g h i : D, gLst [.fz a, .fz b, .fz c, .fz d, .fz e, .fz f, .fz g, .fz h, .fz i] = some (.new (.lst [a, b, c, d, e, f, g, h, i])) := fun _ _ _ _ _ _ _ _ _ => rfl
    have ga : ∀ xs ys : List D, gAdd [.ow (.lst xs), .fz (.list ys)] = if xs.length + ys.length ≤ lineD then some (.new (.lst (xs ++ ys))) else none := fun _ _ => rfl
    have gF : gLen [.ow (.lst F)] = some (.val (.int (F.length : Int))) := by rw [gLen_o]
    have g29 : gLen [.ow (.lst L)] = some (.val (.int 29)) := by rw [gLen_o, hL]; rfl
    obtain ⟨N, hN⟩ : ∃ N : Int, N = (F.length : Int) := ⟨_, rfl⟩
    rw [← hN] at gF e1
    obtain ⟨W1, hW1⟩ : ∃ C, C = webD m ts := ⟨_, rfl⟩
    obtain ⟨O1, hO1⟩ : ∃ C, C = orderD rows := ⟨_, rfl⟩
    rw [← hW1] at w0 res
    rw [← hO1] at res
    rw [← hW1, ← hO1, hR4, ← hPL, ← hPS, ← hZ0, ← hZE]
    simp [-getElem?_pos, -List.getD_eq_getElem?_getD, -getElem?_neg, List.getElem?_cons_zero, List.getElem?_cons_succ, e1, e2, e3, hix, gF, -gLen_o, hB, w0, t1, t2, t3, gt0, l0, l1, l2, l3, l5, l7, l9, ga, lb]
    rw [← hL]
    simp [-getElem?_pos, -List.getD_eq_getElem?_getD, -getElem?_neg, List.getElem?_cons_zero, List.getElem?_cons_succ, g29, -gLen_o, e4, hd]
    exact res
  refine oks_def rfl ?_
  rw [hb]
  simp [-getElem?_pos, -List.getD_eq_getElem?_getD, -getElem?_neg, List.getElem?_cons_zero, List.getElem?_cons_succ, w0, w1, gl, gm, o1, o2, anyPin]
  refine lcK_of (fullF rows) (fun d hd => ?_) (by rw [List.length_nil, rng0_len]; omega) ?_
  · obtain ⟨k, rfl, hk⟩ := rng0_mem hd
    obtain ⟨row, hrow⟩ := ix k (by omega)
    have g1 := orderD_get hrow
    cases row with
    | nil =>
      have e1 : gNe [.fz (.tuple []), .fz (.tuple [])] = some (.val (.bool false)) := rfl
      have b1 : fullF rows (.int (k : Int)) = none := by simp [fullF, hrow]
      simp [-getElem?_pos, -List.getD_eq_getElem?_getD, -getElem?_neg, List.getElem?_cons_zero, List.getElem?_cons_succ, orderD, g1, gt0, b1, e1]
    | cons x xs =>
      have e1 : gNe [.fz (.tuple (.int x :: xs.map .int)), .fz (.tuple [])] = some (.val (.bool true)) := by
        have := eq_bare (row := x :: xs)
        exact ne_of_eq_no this
      have b1 : fullF rows (.int (k : Int)) = some (.int k) := by simp [fullF, hrow]
      simp [-getElem?_pos, -List.getD_eq_getElem?_getD, -getElem?_neg, List.getElem?_cons_zero, List.getElem?_cons_succ, orderD, g1, gt0, b1, e1]
  · rw [List.nil_append]
    obtain ⟨F0, hF0⟩ : ∃ F, F = (rng 0 m).filterMap (fullF rows) := ⟨_, rfl⟩
    rw [← hF0] at fulls hLf ⊢
    have l1 : ∀ x : D, gLst [.fz x] = some (.new (.lst [x])) := fun _ => rfl
    have l2 : ∀ x y : D, gLst [.fz x, .fz y] = some (.new (.lst [x, y])) := fun _ _ => rfl
    have hle : F0.length + 2 ≤ lineD := by omega
    have ga1 : gAdd [.fz (.list F0), .fz (.list [.int m, .int (-1)])] = some (.new (.lst (F0 ++ [.int m, .int (-1)]))) := by
      rw [gAdd_ll, if_pos (by simpa using hle)]
    obtain ⟨F, hF⟩ : ∃ F, F = F0 ++ [.int m, .int (-1)] := ⟨_, rfl⟩
    rw [← hF] at ga1
    have rF : ∀ d ∈ F, ∃ k : Int, d = .int k ∧ -1 ≤ k ∧ k ≤ 25 ∧ (k < 0 ∨ m ≤ k ∨ (0 ≤ k ∧ k < m ∧ ∃ row, rows[k.toNat]? = some row ∧ row ≠ [])) := fun d hd => by
      rw [hF] at hd
      rcases List.mem_append.mp hd with hd | hd
      · obtain ⟨k, rfl, k0, k1, hk⟩ := fulls d hd
        exact ⟨k, rfl, by omega, by omega, .inr (.inr ⟨k0, k1, hk⟩)⟩
      · rcases List.mem_cons.mp hd with rfl | hd
        · exact ⟨m, rfl, by omega, by omega, .inr (.inl (by omega))⟩
        · rw [List.mem_singleton.mp hd]
          exact ⟨-1, rfl, by omega, by omega, .inl (by omega)⟩
    have rL0 : 0 < F.length := by rw [hF]; simp
    have rL1 : F.length ≤ 100 := by rw [hF, List.length_append]; simp; omega
    simp [-getElem?_pos, -List.getD_eq_getElem?_getD, -getElem?_neg, List.getElem?_cons_zero, List.getElem?_cons_succ, w0, o1, o2, l2, ga1, -gAdd_ll, anyPin]
    refine lcK_of (bareF rows) (fun d hd => ?_) (by rw [List.length_nil, rng0_len]; omega) ?_
    · obtain ⟨k, rfl, hk⟩ := rng0_mem hd
      obtain ⟨row, hrow⟩ := ix k (by omega)
      have g1 := orderD_get hrow
      have e1 := eq_bare (row := row)
      cases row with
      | nil =>
        have e1 : gEq [.fz (.tuple []), .fz (.tuple [])] = some (.val (.bool true)) := e1
        have b1 : bareF rows (.int (k : Int)) = some (.int k) := by simp [bareF, hrow]
        simp [-getElem?_pos, -List.getD_eq_getElem?_getD, -getElem?_neg, List.getElem?_cons_zero, List.getElem?_cons_succ, orderD, g1, gt0, b1, e1]
      | cons x xs =>
        have e1 : gEq [.fz (.tuple (.int x :: xs.map .int)), .fz (.tuple [])] = some (.val (.bool false)) := e1
        have b1 : bareF rows (.int (k : Int)) = none := by simp [bareF, hrow]
        simp [-getElem?_pos, -List.getD_eq_getElem?_getD, -getElem?_neg, List.getElem?_cons_zero, List.getElem?_cons_succ, orderD, g1, gt0, b1, e1]
    · rw [List.nil_append]
      obtain ⟨B0, hB0⟩ : ∃ F, F = (rng 0 m).filterMap (bareF rows) := ⟨_, rfl⟩
      rw [← hB0] at bares hLb ⊢
      have hle2 : B0.length + 1 ≤ lineD := by omega
      have ga2 : gAdd [.fz (.list B0), .fz (.list [.int 0])] = some (.new (.lst (B0 ++ [.int 0]))) := by
        rw [gAdd_ll, if_pos (by simpa using hle2)]
      have rB : ∃ b : Nat, b < 25 ∧ ixP (B0 ++ [.int 0]) 0 = some (.int (b : Int)) := by
        cases hB : B0 with
        | nil => exact ⟨0, by omega, rfl⟩
        | cons x xs =>
          obtain ⟨p, rfl, _, hp⟩ := bares x (by rw [hB]; exact List.mem_cons_self)
          exact ⟨p, by omega, by first | exact ixP_0 | exact ixP_nat (k := 0) rfl⟩
      have fin := rest F (B0 ++ [.int 0]) rF rL0 rL1 rB
      obtain ⟨B, hB⟩ : ∃ B, B = B0 ++ [.int 0] := ⟨_, rfl⟩
      rw [← hB] at ga2 fin
      simp [-getElem?_pos, -List.getD_eq_getElem?_getD, -getElem?_neg, List.getElem?_cons_zero, List.getElem?_cons_succ, l1, ga2, -gAdd_ll]
      exact fin
end
noncomputable def body31 : S := (sSeq (sSet 5 (mOp gLst [(oE (mCall sem_Lcorner_5df4 [(oS 1), (oS 2), (oS 3)])), (oE (mCall sem_Lcorner_5df4 [(oS 1), (oS 2), (oS 3)]))]))
    (sSeq (sSet 6 (mOp gIx [(oE (mOp gLst [(oE (mC .none)), (oE (mOp gLst [(oE (mC (.int 11)))]))])), (oE (mOp gInt [(oE (mOp gEq [(oE (mOp gLen [(oE (mOp gIx [(oS 2), (oE (mC (.int 1)))]))])), (oE (mC (.int 24)))]))]))]))
    (sSeq (sIf (mTst (mOp gNe [(oE (mCall sem_Lrefusal_9f4eR [(oE (mC (fnD "_law_refused"))), (oE (mOp gTup [(oE (mRd 2)), (oE (mRd 3)), (oE (mOp gIx [(oS 5), (oE (mC (.int 0)))])), (oE (mOp gIx [(oS 5), (oE (mC (.int 1)))]))]))])), (oS 6)])) (sRet (mC (.bool false))) sNx)
    (sSeq (sSet 7 (mOp gAdd [(oE (mC (.int 1))), (oE (mCall sem_Ldraw_de5b [(oS 1), (oE (mC (.int 3)))]))]))
    (sSeq (sSet 8 (mOp gLst [(oE (mCall sem_Lbad_34c0 [(oS 1), (oS 2), (oS 3)])), (oE (mCall sem_Lbad_34c0 [(oS 1), (oS 2), (oS 3)]))]))
    (sSeq (sSet 9 (mLc [11] (mOpL gRng1 [(oE (mC (.int 2)))]) (setN 11) mYes (mOp gIx [(oE (mOp gLst [(oE (mOp gIx [(oS 5), (oS 11)])), (oE (mOp gIx [(oS 8), (oS 11)]))])), (oE (mOp gMod [(oE (mOp gDiv [(oS 7), (oE (mOp gAdd [(oE (mC (.int 1))), (oS 11)]))])), (oE (mC (.int 2)))]))])))
    (sSeq (sSet 10 (mOp gReprT [(oS 9)]))
    (sSeq (sIf (mOr (mTst (mOp gNe [(oE (mCall sem_Lrefusal_9f4eR [(oE (mC (fnD "_law_refused"))), (oE (mOp gTup [(oE (mRd 2)), (oE (mRd 3)), (oE (mOp gIx [(oS 9), (oE (mC (.int 0)))])), (oE (mOp gIx [(oS 9), (oE (mC (.int 1)))]))]))])), (oE (mOp gLst [(oE (mC (.int 3)))]))])) (mTst (mOp gNeS [(oE (mOp gReprT [(oS 9)])), (oS 10)]))) (sRet (mC (.bool false))) sNx)
    (sIf (mTst (mOp gNe [(oE (mCall sem_Lrefusal_9f4eR [(oE (mC (fnD "_law_refused"))), (oE (mOp gTup [(oE (mRd 2)), (oE (mRd 3)), (oE (mOp gIx [(oS 5), (oE (mC (.int 1)))])), (oE (mOp gIx [(oS 5), (oE (mC (.int 0)))]))]))])), (oS 6)])) (sRet (mC (.bool false))) sNx)))))))))
def U31 (S A1 A2 : D) (n : Nat) (k : Nat) (r : Ro) : Prop := ∃ q x4 x5 x6 x7 x8 x9 x10, r = [.frz false S, .own false (.lst q), .frz false A1, .frz false A2, x4, x5, x6, x7, x8, x9, x10, .non] ∧ Pen (n + 14 * k) q ∧ Fr x4 ∧ Fr x5 ∧ Fr x6 ∧ Fr x7 ∧ Fr x8 ∧ Fr x9 ∧ Fr x10
theorem gNe31 {c : Option Int} (h : c = none ∨ c = some 11) : gNe [.fz (resD1 c), .fz (resD1 c)] = some (.val (.bool false)) := by
  rcases h with rfl | rfl <;> rfl
theorem gNe_33 : gNe [.fz (.list [.int 3]), .fz (.list [.int 3])] = some (.val (.bool false)) := rfl
open Classical in
noncomputable def due31 (ts : List (Int × Int)) : Option Int := if ts.length = 24 then some 11 else none
section
variable {m : Int} {ts : List (Int × Int)} {rows : List (List Int)}
theorem out31_good {c1 c2 : D} {p1 p2 : Nat} (h1 : Cor m ts rows c1 p1) (h2 : Cor m ts rows c2 p2) (hm : 1 ≤ m ∧ m ≤ 25) (hl : ts.length ≤ 24) (ht : TiesOk m ts) (ho : OrdN m ts (2 * ts.length) rows) : out31 sem_put_in_c1efR [.fz (webD m ts), .fz (orderD rows), .fz c1, .fz c2] (due31 ts) := by
  unfold due31
  by_cases h : ts.length = 24
  · rw [if_pos h]
    exact .inr ⟨rfl, put_inR_tg h1 h2 h⟩
  · rw [if_neg h]
    have rws := ord_rows ho
    obtain ⟨_, _, e, rfl, rfl⟩ := put_inR_ok h1 h2 ht ho.len (by omega) (by omega) (fun row hr => by have := rws row hr; omega)
    exact ⟨_, e⟩
theorem out31_bad {c1 c2 : D} (hl : ts.length ≤ 24) (h : BadC m ts rows c1 ∨ (CorD m ts rows c1 ∧ BadC m ts rows c2)) : out31 sem_put_in_c1efR [.fz (webD m ts), .fz (orderD rows), .fz c1, .fz c2] (some 3) := .inl ⟨rfl, put_inR_no (by omega) h⟩
set_option maxHeartbeats 8000000 in
theorem body31_ok {S : D} {n k : Nat} {q : List D} {x5 x6 x7 x8 x9 x10 : Sl} (hm : 1 ≤ m ∧ m ≤ 25) (hl : ts.length ≤ 24) (ht : TiesOk m ts) (ho : OrdN m ts (2 * ts.length) rows) (hn : n + 14 * (k + 1) ≤ 90000) (hq : Pen (n + 14 * k) q) (h5 : Fr x5) (h6 : Fr x6) (h7 : Fr x7) (h8 : Fr x8) (h9 : Fr x9) (h10 : Fr x10) :
    W body31 [.frz false S, .own false (.lst q), .frz false (webD m ts), .frz false (orderD rows), .frz false (.int (k : Int)), x5, x6, x7, x8, x9, x10, .non] fun o r => o = .nx ∧ U31 S (webD m ts) (orderD rows) n (k + 1) r := by
  have lb : (lineD : Nat) = 16777216 := rfl
  obtain ⟨_, _, e1, c1, p1, q1, rfl, rfl, hc1, hq1⟩ := Lcorner_ok hq (by omega) (by omega) ho ht (by omega)
  obtain ⟨_, _, e2, c2, p2, q2, rfl, rfl, hc2, hq2⟩ := Lcorner_ok hq1 (by omega) (by omega) ho ht (by omega)
  obtain ⟨_, _, e3, w, q3, rfl, rfl, w0, w1, hq3⟩ := draw_ok hq2 (by omega) (m := 3) (by omega)
  obtain ⟨_, _, e4, b1, q4, rfl, rfl, hb1, hq4⟩ := Lbad31_ok hq3 (by omega) hm ho hl
  obtain ⟨_, _, e5, b2, q5, rfl, rfl, hb2, hq5⟩ := Lbad31_ok hq4 (by omega) hm ho hl
  have g1 := ref31 (wrap31 (out31_good hc1 hc2 hm hl ht ho))
  have g2 := ref31 (wrap31 (out31_good hc2 hc1 hm hl ht ho))
  -- what is asked: one of them, or both, is none
  obtain ⟨d1, d2, i1, i2, hs1, hs2, g3⟩ : ∃ d1 d2, ixP [c1, b1] ((1 + w) % 2) = some d1 ∧ ixP [c2, b2] ((1 + w) / 2 % 2) = some d2 ∧ Shw d1 ∧ Shw d2 ∧ sem_Lrefusal_9f4eR [.fz (fnD "_law_refused"), .fz (.tuple [webD m ts, orderD rows, d1, d2])] = some (.ok (resV1 (some 3)), [.fz (fnD "_law_refused"), .fz (.tuple [webD m ts, orderD rows, d1, d2])]) := by
    have : w = 0 ∨ w = 1 ∨ w = 2 := by omega
    rcases this with rfl | rfl | rfl
    · exact ⟨b1, c2, rfl, rfl, hb1.sh, cor_shw hc2 hm.2 hl, ref31 (wrap31 (out31_bad hl (.inl hb1)))⟩
    · exact ⟨c1, b2, rfl, rfl, cor_shw hc1 hm.2 hl, hb2.sh, ref31 (wrap31 (out31_bad hl (.inr ⟨⟨p1, hc1⟩, hb2⟩)))⟩
    · exact ⟨b1, b2, rfl, rfl, hb1.sh, hb2.sh, ref31 (wrap31 (out31_bad hl (.inl hb1)))⟩
  have gr : gReprT [.ow (.lst [d1, d2])] = some (.val (.str (PyData.shown (.list [d1, d2])))) := gReprT_l rfl (shL_shw hs1 hs2)
  obtain ⟨T, hT⟩ : ∃ T, T = PyData.shown (.list [d1, d2]) := ⟨_, rfl⟩
  rw [← hT] at gr
  have gt : ∀ x y z w : D, gTup [.fz x, .fz y, .fz z, .fz w] = some (.val (.tuple [x, y, z, w])) := fun _ _ _ _ => rfl
  have gs1 : ∀ x : D, gLst [.fz x] = some (.new (.lst [x])) := fun _ => rfl
  have gs2 : ∀ x y : D, gLst [.fz x, .fz y] = some (.new (.lst [x, y])) := fun _ _ => rfl
  have wx : gIx [.fz (webD m ts), .fz (.int 1)] = some (.val (.tuple (ts.map tieD))) := web_1
  have gl : gLen [.fz (.tuple (ts.map tieD))] = some (.val (.int (ts.length : Int))) := by simp
  obtain ⟨J, gJ, iJ⟩ : ∃ J : Int, ((gEq [.fz (.int (ts.length : Int)), .fz (.int 24)]).bind fun v => v.data.bind fun d => gInt [.fz d]) = some (.val (.int J)) ∧ ixP [.none, .list [.int 11]] J = some (resD1 (due31 ts)) := by
    unfold due31
    by_cases h : ts.length = 24
    · refine ⟨1, ?_, by rw [if_pos h]; rfl⟩
      rw [gEq_ii, h]; rfl
    · refine ⟨0, ?_, by rw [if_neg h]; rfl⟩
      have : ¬ (ts.length : Int) = 24 := by omega
      rw [gEq_ii]; simp [this]
  obtain ⟨bb, gE, gI⟩ : ∃ bb : Bool, gEq [.fz (.int (ts.length : Int)), .fz (.int 24)] = some (.val (.bool bb)) ∧ gInt [.fz (.bool bb)] = some (.val (.int J)) := by
    refine ⟨decide ((ts.length : Int) = 24), gEq_ii, ?_⟩
    rw [gEq_ii] at gJ
    exact gJ
  have hdc : due31 ts = none ∨ due31 ts = some 11 := by
    unfold due31
    split
    · exact .inr rfl
    · exact .inl rfl
  have gn := gNe31 hdc
  have rd := resV1_data (due31 ts)
  have r3 : resV1 (some 3) = .new (.lst [.int 3]) := rfl
  have s1 : DL.SmD 1 := smD_of (by omega)
  have s2 : DL.SmD 2 := smD_of (by omega)
  have m1 : gMod [.fz (.int (1 + w)), .fz (.int 2)] = some (.val (.int ((1 + w) % 2))) := by simp
  have m2 : gMod [.fz (.int ((1 + w) / 2)), .fz (.int 2)] = some (.val (.int ((1 + w) / 2 % 2))) := by simp
  have v1 : gDiv [.fz (.int (1 + w)), .fz (.int 1)] = some (.val (.int (1 + w))) := by simp [s1]
  have v2 : gDiv [.fz (.int (1 + w)), .fz (.int 2)] = some (.val (.int ((1 + w) / 2))) := by simp [s2]
  have nx : U31 S (webD m ts) (orderD rows) n (k + 1) [.frz false S, .own false (.lst q5), .frz false (webD m ts), .frz false (orderD rows), .frz false (.int (k : Int)), .own false (.lst [c1, c2]), .frz false (resD1 (due31 ts)), .frz false (.int (1 + w)), .own false (.lst [b1, b2]), .own false (.lst [d1, d2]), .frz false (.str T), .non] :=
    ⟨q5, _, _, _, _, _, _, _, rfl, pen_mono (by omega) hq5, .frz, .lst, .frz, .frz, .lst, .lst, .frz⟩
  obtain ⟨X1, hX1⟩ : ∃ X : Int, X = (1 + w) % 2 := ⟨_, rfl⟩
  obtain ⟨X2, hX2⟩ : ∃ X : Int, X = (1 + w) / 2 % 2 := ⟨_, rfl⟩
  obtain ⟨X3, hX3⟩ : ∃ X : Int, X = (1 + w) / 2 := ⟨_, rfl⟩
  rw [← hX1] at i1 m1
  rw [← hX2] at i2 m2
  rw [← hX3] at m2 v2
  obtain ⟨V, hV⟩ : ∃ V : Int, V = 1 + w := ⟨_, rfl⟩
  have aw : gAdd [.fz (.int 1), .fz (.int w)] = some (.val (.int V)) := by rw [hV]; simp
  rw [← hV] at m1 v1 v2 nx
  obtain ⟨TS, hTS⟩ : ∃ C, C = ts.map tieD := ⟨_, rfl⟩
  obtain ⟨N, hN⟩ : ∃ N : Int, N = (ts.length : Int) := ⟨_, rfl⟩
  rw [← hTS] at wx gl
  rw [← hN] at gl gE
  obtain ⟨RD, hRD⟩ : ∃ R, R = resD1 (due31 ts) := ⟨_, rfl⟩
  rw [← hRD] at gn rd iJ nx
  obtain ⟨RV1, hRV⟩ : ∃ R, R = resV1 (due31 ts) := ⟨_, rfl⟩
  rw [← hRV] at g1 g2 rd
  obtain ⟨W1, hW1⟩ : ∃ C, C = webD m ts := ⟨_, rfl⟩
  obtain ⟨O1, hO1⟩ : ∃ C, C = orderD rows := ⟨_, rfl⟩
  rw [← hW1, ← hO1] at e1 e2 e4 e5 g1 g2 g3 nx ⊢
  rw [← hW1] at wx
  simp [-getElem?_pos, -List.getD_eq_getElem?_getD, -getElem?_neg, List.getElem?_cons_zero, List.getElem?_cons_succ, body31, h5.pin, h5.al, h6.pin, h6.al, h7.pin, h7.al, h8.pin, h8.al, h9.pin, h9.al, h10.pin, h10.al, e1, e2, e3, e4, e5, gs1, gs2, gt, wx, gl, gE, gI, -gEq_ii, -gInt_b, iJ, g1, rd, gn, aw, anyPin]
  refine lcK_inv (acc := []) (ds := rng 0 2) (fun j acc r => acc = [d1, d2].take j ∧ r = [.frz false S, .own false (.lst q5), .frz false W1, .frz false O1, .frz false (.int (k : Int)), .own false (.lst [c1, c2]), .frz false RD, .frz false (.int V), .own false (.lst [b1, b2]), x9, x10, .non]) (n := 0) ⟨rfl, rfl⟩ (by rw [rng0_len, List.length_nil, lb]; decide) (fun j d acc r hd h => ?_) (fun zs r h => ?_)
  · obtain ⟨rfl, hj⟩ := rng0_get hd
    rw [Nat.zero_add] at h ⊢
    obtain ⟨rfl, rfl⟩ := h
    have : j = 0 ∨ j = 1 := by omega
    rcases this with rfl | rfl
    · simp [-getElem?_pos, -List.getD_eq_getElem?_getD, -getElem?_neg, List.getElem?_cons_zero, List.getElem?_cons_succ, gs2, v1, m1, i1, -gDiv_ii, -gMod_ii]
    · simp [-getElem?_pos, -List.getD_eq_getElem?_getD, -getElem?_neg, List.getElem?_cons_zero, List.getElem?_cons_succ, gs2, v2, m2, i2, -gDiv_ii, -gMod_ii]
  · rw [Nat.zero_add, rng0_len] at h
    obtain ⟨rfl, rfl⟩ := h
    have tk : [d1, d2].take (Int.toNat 2) = [d1, d2] := rfl
    rw [tk]
    simp [-getElem?_pos, -List.getD_eq_getElem?_getD, -getElem?_neg, List.getElem?_cons_zero, List.getElem?_cons_succ, h9.pin, h9.al, h10.pin, h10.al, gr, gt, gs1, g3, r3, gNe_33, g2, rd, gn]
    exact nx
end
set_option maxHeartbeats 8000000 in
theorem law31_ok (ns : List Int) (h : ns.length ≤ 63) : Oks sem_law_87ceR [.fz (.dict ((.none, .none) :: ns.map fun n => (.int n, .none)))] fun v ys => v = .ok (.val (.bool true)) ∧ ys.length = 1 := by
  obtain ⟨_, _, e1, p, rfl, rfl, hp⟩ := pen_ok h
  obtain ⟨_, _, e2, m, ts, p2, rfl, rfl, hw, hp2⟩ := web_ok hp (by omega) (pl := 25) (ti := 24) (by omega) (by omega)
  have hm : 1 ≤ m ∧ m ≤ 25 := ⟨hw.m1, hw.mN⟩
  have hl : ts.length ≤ 24 := hw.len
  obtain ⟨_, _, e3, rows, p3, rfl, rfl, ho, hp3⟩ := order_ok hp2 (by omega) (m := m) (ts := ts) (by omega) (by omega) hw.ok
  obtain ⟨_, _, e4, c, p4, rfl, rfl, c0, c1, hp4⟩ := draw_ok hp3 (by omega) (m := 12) (by omega)
  obtain ⟨S, hS⟩ : ∃ S : D, S = .dict ((.none, .none) :: ns.map fun n => (.int n, .none)) := ⟨_, rfl⟩
  rw [← hS] at e1 ⊢
  have hb : b_law_87ceR = (sSeq (sSet 1 (mCall sem_Lpen_3d2f [(oS 0)]))
    (sSeq (sSet 2 (mCall sem_Lweb_0350 [(oS 1), (oE (mC (.int 25))), (oE (mC (.int 24)))]))
    (sSeq (sSet 3 (mCall sem_Lorder_8e8e [(oS 1), (oS 2)]))
    (sSeq (sFor (mOpL gRng1 [(oE (mOp gAdd [(oE (mC (.int 1))), (oE (mCall sem_Ldraw_de5b [(oS 1), (oE (mC (.int 12)))]))]))]) (setN 4) body31)
    (sRet (mC (.bool true))))))) := rfl
  have k0 : (-4611686018427387904 : Int) ≤ 1 + c := by omega
  have k1 : 1 + c < (4611686018427387904 : Int) := by omega
  have bo := fun (k : Nat) (hk : k < 12) (q : List D) (x5 x6 x7 x8 x9 x10 : Sl) => body31_ok (S := S) (n := 2052) (k := k) (q := q) (x5 := x5) (x6 := x6) (x7 := x7) (x8 := x8) (x9 := x9) (x10 := x10) hm hl hw.ok ho (by omega)
  have hp4 : Pen 2052 p4 := pen_mono (by omega) hp4
  obtain ⟨W1, hW1⟩ : ∃ C, C = webD m ts := ⟨_, rfl⟩
  obtain ⟨O1, hO1⟩ : ∃ C, C = orderD rows := ⟨_, rfl⟩
  rw [← hW1] at e2 e3 bo
  rw [← hO1] at e3 bo
  obtain ⟨B, hB⟩ : ∃ B, B = body31 := ⟨_, rfl⟩
  rw [← hB] at hb bo
  refine oks_def rfl ?_
  rw [hb]
  simp [-getElem?_pos, -List.getD_eq_getElem?_getD, -getElem?_neg, List.getElem?_cons_zero, List.getElem?_cons_succ, e1, e2, e3, e4, k0, k1]
  refine forS_inv (U31 S W1 O1 2052) (rng 0 (1 + c)) 0 _ ⟨p4, _, _, _, _, _, _, _, rfl, hp4, .non, .non, .non, .non, .non, .non, .non⟩ (fun k d r hd h => ?_) (fun r h => ?_)
  · obtain ⟨rfl, hk⟩ := rng0_get hd
    rw [Nat.zero_add] at h ⊢
    obtain ⟨q, x4, x5, x6, x7, x8, x9, x10, rfl, hq, h4, h5, h6, h7, h8, h9, h10⟩ := h
    have w := bo k (by omega) q x5 x6 x7 x8 x9 x10 hq h5 h6 h7 h8 h9 h10
    simp [-getElem?_pos, -List.getD_eq_getElem?_getD, -getElem?_neg, List.getElem?_cons_zero, List.getElem?_cons_succ, h4.pin, h4.al]
    refine w.mono fun o r ⟨e, h⟩ => ?_
    subst e
    exact h
  · obtain ⟨q, x4, x5, x6, x7, x8, x9, x10, rfl, hq, h4, h5, h6, h7, h8, h9, h10⟩ := h
    simp [-getElem?_pos, -List.getD_eq_getElem?_getD, -getElem?_neg, List.getElem?_cons_zero, List.getElem?_cons_succ]
end Lw
end

section
namespace Lw
open PySem PySem.Spec PyProof.Rows L2 DL
def topS (i : Nat) : Stmt := PySem.Challenge.pw_holefloor_k31_no_corners.main.body.getD i (.Pass ⟨0, 0, 0, 0⟩)
abbrev s_is_whole : Stmt := topS 18
abbrev s_place_of : Stmt := topS 21
abbrev s_begun : Stmt := topS 23
abbrev s_is_corner : Stmt := topS 25
abbrev s_corner_place : Stmt := topS 26
abbrev s_put_behind : Stmt := topS 27
abbrev s_put_in : Stmt := topS 28
abbrev s_Lpen : Stmt := topS 30
abbrev s_Ldraw : Stmt := topS 31
abbrev s_Lweb : Stmt := topS 32
abbrev s_Lorder : Stmt := topS 33
abbrev s_Lcorner : Stmt := topS 34
abbrev s_Lrefused : Stmt := topS 37
abbrev s_Lrefusal : Stmt := topS 35
abbrev s_Lbad : Stmt := topS 36
abbrev s_law : Stmt := topS 38
section
variable {P : Program} {w : World} {K : PySem.W.Frag} {mg : Str → Option Value} {base : Heap}
theorem sc_is_whole : FnScope ["thing"] ["thing"] (defScope s_is_whole) := ⟨rfl, rfl, rfl, by decide +kernel, rfl, by decide +kernel, by decide +kernel⟩
set_option maxHeartbeats 4000000 in
theorem ok_is_whole {k : Nat} {f : Addr} {fd : FuncData} (F : Fun K "is_whole" "is_whole" s_is_whole f fd) (z_isinstance : mg "isinstance" = none) (z_int : mg "int" = none) (z_bool : mg "bool" = none) :
    FnOk P w K mg base (L2N.CX P w) (k + 1) f fd ["thing"] (spD K mg (defSem 1 1 b_is_whole_637d) 1) :=
  def_ok (N := ["thing"]) F sc_is_whole (by decide) fun cdv A outer s H E hr tk =>
    (dss_one (ds_ret (de_and (de_isi (t := .int) (by rfl) z_isinstance (by rfl) z_int (do_var (pv 0)) (by decide +kernel)) (de_one (de_not (de_isi (t := .bool) (by rfl) z_isinstance (by rfl) z_bool (do_var (pv 0)) (by decide +kernel)))))))
theorem sc_place_of : FnScope ["web", "end"] ["web", "end"] (defScope s_place_of) := ⟨rfl, rfl, rfl, by decide +kernel, rfl, by decide +kernel, by decide +kernel⟩
set_option maxHeartbeats 4000000 in
theorem ok_place_of {k : Nat} {f : Addr} {fd : FuncData} (F : Fun K "place_of" "place_of" s_place_of f fd) :
    FnOk P w K mg base (L2N.CX P w) (k + 1) f fd ["web", "end"] (spD K mg (defSem 2 2 b_place_of_8c4c) 2) :=
  def_ok (N := ["web", "end"]) F sc_place_of (by decide) fun cdv A outer s H E hr tk =>
    (dss_one (ds_ret (de_ix ixd_get (do_of (de_ix ixd_get (do_of (de_ix ixd_get (do_var (pv 0)) (do_of de_int) (fun _ _ => rfl))) (do_of (de_bin od_div (do_var (pv 1)) (do_of de_int))) (fun _ _ => rfl))) (do_of (de_bin od_mod (do_var (pv 1)) (do_of de_int))) (fun _ _ => rfl))))
theorem sc_begun : FnScope ["row", "at"] ["row"] (defScope s_begun) := ⟨rfl, rfl, rfl, by decide +kernel, rfl, by decide +kernel, by decide +kernel⟩
set_option maxHeartbeats 4000000 in
theorem ok_begun {k : Nat} {f : Addr} {fd : FuncData} (F : Fun K "begun" "begun" s_begun f fd) (z_len : mg "len" = none) (z_list : mg "list" = none) (z_min : mg "min" = none) (z_tuple : mg "tuple" = none) :
    FnOk P w K mg base (L2N.CX P w) (k + 1) f fd ["row"] (spD K mg (defSem 1 2 b_begun_fe2e) 1) :=
  def_ok (N := ["row", "at"]) F sc_begun (by decide) fun cdv A outer s H E hr tk =>
    (dss_cons (ds_if (db_cmp (od_eq hr.units) (do_of (de_cb cd_len (by rfl) z_len (by decide +kernel) (da_cons (do_var (pv 0)) da_nil))) (do_of de_int) (nomark _)) (dss_one (ds_ret (de_tup da_nil))) dss_nil)
    (dss_cons (ds_set (i := 0) sc_begun.nd rfl (by first | exact Or.inl rfl | exact Or.inr rfl) (de_ct cd_list (by rfl) z_list (by decide +kernel) (da_cons (do_var (pv 0)) da_nil)))
    (dss_cons (ds_set (i := 1) sc_begun.nd rfl (by first | exact Or.inl rfl | exact Or.inr rfl) (de_index (de_var (pv 0)) (do_of (de_cb (cd_minL rfl hr.units) (by rfl) z_min (by decide +kernel) (da_cons (do_var (pv 0)) da_nil)))))
    (dss_one (ds_ret (de_ct cd_tuple (by rfl) z_tuple (by decide +kernel) (da_cons (do_of (de_bin od_add (do_of (de_slice (do_var (pv 0)) (dp_some (do_var (pv 1))) dp_none)) (do_of (de_slice (do_var (pv 0)) dp_none (dp_some (do_var (pv 1))))))) da_nil)))))))
theorem sc_is_corner : FnScope ["web", "order", "corner"] ["web", "order", "corner"] (defScope s_is_corner) := ⟨rfl, rfl, rfl, by decide +kernel, rfl, by decide +kernel, by decide +kernel⟩
set_option maxHeartbeats 4000000 in
theorem ok_is_corner {k : Nat} {f : Addr} {fd : FuncData} (F : Fun K "is_corner" "is_corner" s_is_corner f fd) {f_is_whole : Addr} {fd_is_whole : FuncData} (G_is_whole : FnOk P w K mg base (L2N.CX P w) k f_is_whole fd_is_whole ["thing"] (spD K mg sem_is_whole_637d 1)) (g_is_whole : mg "is_whole" = some (.ref f_is_whole)) (k_is_whole : PySem.W.keepIn K (.ref f_is_whole) = true) (B_is_whole : Binds K fd_is_whole ["thing"] []) (z_len : mg "len" = none) (z_isinstance : mg "isinstance" = none) (z_tuple : mg "tuple" = none) :
    FnOk P w K mg base (L2N.CX P w) (k + 1) f fd ["web", "order", "corner"] (spD K mg (defSem 3 3 b_is_corner_0de1) 3) :=
  def_ok (N := ["web", "order", "corner"]) F sc_is_corner (by decide) fun cdv A outer s H E hr tk =>
    (dss_cons (ds_if (db_val (de_call tk G_is_whole hr (by rfl) g_is_whole k_is_whole B_is_whole rfl (da_cons (do_var (pv 2)) da_nil))) (dss_one (ds_ret (de_chain od_le od_lt (do_of de_int) (do_var (pv 2)) (do_of (de_bin od_mul (do_of de_int) (do_of (de_cb cd_len (by rfl) z_len (by decide +kernel) (da_cons (do_of (de_ix ixd_get (do_var (pv 0)) (do_of de_int) (fun _ _ => rfl))) da_nil)))))))) dss_nil)
    (dss_cons (ds_if (db_w (dw_or (db_not (db_val (de_isi (t := .tuple) (by rfl) z_isinstance (by rfl) z_tuple (do_var (pv 2)) (by decide +kernel)))) (dw_or (db_cmp (od_ne hr.units) (do_of (de_cb cd_len (by rfl) z_len (by decide +kernel) (da_cons (do_var (pv 2)) da_nil))) (do_of de_int) (nomark _)) (dw_or (db_cmp (od_ne hr.units) (do_of (de_ix ixd_get (do_var (pv 2)) (do_of de_int) (fun _ _ => rfl))) (do_of de_str) (nomark _)) (dw_or1 (db_not (db_val (de_call tk G_is_whole hr (by rfl) g_is_whole k_is_whole B_is_whole rfl (da_cons (do_of (de_ix ixd_get (do_var (pv 2)) (do_of de_int) (fun _ _ => rfl))) da_nil))))))))) (dss_one (ds_ret de_bl)) dss_nil)
    (dss_one (ds_ret (de_and (de_chain od_le od_lt (do_of de_int) (do_of (de_ix ixd_get (do_var (pv 2)) (do_of de_int) (fun _ _ => rfl))) (do_of (de_ix ixd_get (do_var (pv 0)) (do_of de_int) (fun _ _ => rfl)))) (de_one (de_cmp (od_eq hr.units) (do_of (de_ix ixd_get (do_var (pv 1)) (do_of (de_ix ixd_get (do_var (pv 2)) (do_of de_int) (fun _ _ => rfl))) (fun _ _ => rfl))) (do_of (de_tup da_nil)) (nomark _))))))))
theorem sc_corner_place : FnScope ["web", "corner"] ["web", "corner"] (defScope s_corner_place) := ⟨rfl, rfl, rfl, by decide +kernel, rfl, by decide +kernel, by decide +kernel⟩
set_option maxHeartbeats 4000000 in
theorem ok_corner_place {k : Nat} {f : Addr} {fd : FuncData} (F : Fun K "corner_place" "corner_place" s_corner_place f fd) {f_place_of : Addr} {fd_place_of : FuncData} (G_place_of : FnOk P w K mg base (L2N.CX P w) k f_place_of fd_place_of ["web", "end"] (spD K mg sem_place_of_8c4c 2)) (g_place_of : mg "place_of" = some (.ref f_place_of)) (k_place_of : PySem.W.keepIn K (.ref f_place_of) = true) (B_place_of : Binds K fd_place_of ["web", "end"] []) (z_isinstance : mg "isinstance" = none) (z_tuple : mg "tuple" = none) :
    FnOk P w K mg base (L2N.CX P w) (k + 1) f fd ["web", "corner"] (spD K mg (defSem 2 2 b_corner_place_c3d1) 2) :=
  def_ok (N := ["web", "corner"]) F sc_corner_place (by decide) fun cdv A outer s H E hr tk =>
    (dss_cons (ds_if (db_val (de_isi (t := .tuple) (by rfl) z_isinstance (by rfl) z_tuple (do_var (pv 1)) (by decide +kernel))) (dss_one (ds_ret (de_ix ixd_get (do_var (pv 1)) (do_of de_int) (fun _ _ => rfl)))) dss_nil)
    (dss_one (ds_ret (de_call tk G_place_of hr (by rfl) g_place_of k_place_of B_place_of rfl (da_cons (do_var (pv 0)) (da_cons (do_var (pv 1)) da_nil))))))
theorem sc_put_behind : FnScope ["row", "corner", "end", "at"] ["row", "corner", "end"] (defScope s_put_behind) := ⟨rfl, rfl, rfl, by decide +kernel, rfl, by decide +kernel, by decide +kernel⟩
set_option maxHeartbeats 4000000 in
theorem ok_put_behind {k : Nat} {f : Addr} {fd : FuncData} (F : Fun K "put_behind" "put_behind" s_put_behind f fd) (z_len : mg "len" = none) :
    FnOk P w K mg base (L2N.CX P w) (k + 1) f fd ["row", "corner", "end"] (spD K mg (defSem 3 4 b_put_behind_7da8) 3) :=
  def_ok (N := ["row", "corner", "end", "at"]) F sc_put_behind (by decide) fun cdv A outer s H E hr tk =>
    (dss_cons (ds_set (i := 3) sc_put_behind.nd rfl (by first | exact Or.inl rfl | exact Or.inr rfl) (de_cb cd_len (by rfl) z_len (by decide +kernel) (da_cons (do_var (pv 0)) da_nil)))
    (dss_cons (ds_if (db_cmp (od_in hr.units) (do_var (pv 1)) (do_var (pv 0)) (by rfl)) (dss_one (ds_set (i := 3) sc_put_behind.nd rfl (by first | exact Or.inl rfl | exact Or.inr rfl) (de_bin od_add (do_of (de_indexO (pv 0) (do_var (pv 1)))) (do_of de_int)))) dss_nil)
    (dss_one (ds_expr (de_mut PySem.F.plainAttrs_list PySem.F.slot_list_insert PySem.F.type_list_insert md_insert (pv 0) (da_cons (do_of (de_var (pv 3))) (da_cons (do_of (de_var (pv 2))) da_nil)))))))
theorem sc_put_in : FnScope ["web", "order", "one", "other", "rows", "begin", "end", "many", "ties", "row"] ["web", "order", "one", "other"] (defScope s_put_in) := ⟨rfl, rfl, rfl, by decide +kernel, rfl, by decide +kernel, by decide +kernel⟩
set_option maxHeartbeats 4000000 in
theorem ok_put_in {k : Nat} {f : Addr} {fd : FuncData} (F : Fun K "put_in" "put_in" s_put_in f fd) {f_is_corner : Addr} {fd_is_corner : FuncData} (G_is_corner : FnOk P w K mg base (L2N.CX P w) k f_is_corner fd_is_corner ["web", "order", "corner"] (spD K mg sem_is_corner_0de1 3)) (g_is_corner : mg "is_corner" = some (.ref f_is_corner)) (k_is_corner : PySem.W.keepIn K (.ref f_is_corner) = true) (B_is_corner : Binds K fd_is_corner ["web", "order", "corner"] []) {f_corner_place : Addr} {fd_corner_place : FuncData} (G_corner_place : FnOk P w K mg base (L2N.CX P w) k f_corner_place fd_corner_place ["web", "corner"] (spD K mg sem_corner_place_c3d1 2)) (g_corner_place : mg "corner_place" = some (.ref f_corner_place)) (k_corner_place : PySem.W.keepIn K (.ref f_corner_place) = true) (B_corner_place : Binds K fd_corner_place ["web", "corner"] []) {f_put_behind : Addr} {fd_put_behind : FuncData} (G_put_behind : FnOk P w K mg base (L2N.CX P w) k f_put_behind fd_put_behind ["row", "corner", "end"] (spD K mg sem_put_behind_7da8 3)) (g_put_behind : mg "put_behind" = some (.ref f_put_behind)) (k_put_behind : PySem.W.keepIn K (.ref f_put_behind) = true) (B_put_behind : Binds K fd_put_behind ["row", "corner", "end"] []) {f_begun : Addr} {fd_begun : FuncData} (G_begun : FnOk P w K mg base (L2N.CX P w) k f_begun fd_begun ["row"] (spD K mg sem_begun_fe2e 1)) (g_begun : mg "begun" = some (.ref f_begun)) (k_begun : PySem.W.keepIn K (.ref f_begun) = true) (B_begun : Binds K fd_begun ["row"] []) (z_len : mg "len" = none) (z_MOST_TIES : ∃ t, mg "MOST_TIES" = some (.int 24 t)) (z_list : mg "list" = none) (z_tuple : mg "tuple" = none) {C_NoEnd : Addr} {C_TooGreat : Addr} (x_NoEnd : ExK K mg "NoEnd" C_NoEnd) (x_TooGreat : ExK K mg "TooGreat" C_TooGreat) :
    FnOk P w K mg base (L2N.CX P w) (k + 1) f fd ["web", "order", "one", "other"] (spD K mg (defSem 4 10 b_put_in_c1efR) 4) :=
  def_ok (N := ["web", "order", "one", "other", "rows", "begin", "end", "many", "ties", "row"]) F sc_put_in (by decide) fun cdv A outer s H E hr tk =>
    (dss_cons (ds_if (db_w (dw_or (db_not (db_val (de_call tk G_is_corner hr (by rfl) g_is_corner k_is_corner B_is_corner rfl (da_cons (do_var (pv 0)) (da_cons (do_var (pv 1)) (da_cons (do_var (pv 2)) da_nil)))))) (dw_or1 (db_not (db_val (de_call tk G_is_corner hr (by rfl) g_is_corner k_is_corner B_is_corner rfl (da_cons (do_var (pv 0)) (da_cons (do_var (pv 1)) (da_cons (do_var (pv 3)) da_nil))))))))) (dss_one (ds_raise0 (cls := "NoEnd") rfl tk x_NoEnd (by rfl))) dss_nil)
    (dss_cons (ds_unp (de_var (pv 0)) (dg_tup rfl (dgs_cons (dg_name sc_put_in.nd rfl (by first | exact Or.inl rfl | exact Or.inr rfl)) (dgs_cons (dg_name sc_put_in.nd rfl (by first | exact Or.inl rfl | exact Or.inr rfl)) dgs_nil))) (setT_nx (by simp only [List.forall_mem_cons, List.not_mem_nil, false_imp_iff, implies_true, and_true]; exact ⟨setN_nx _, setN_nx _⟩)))
    (dss_cons (ds_if (db_cmp (od_eq hr.units) (do_of (de_cb cd_len (by rfl) z_len (by decide +kernel) (da_cons (do_var (pv 8)) da_nil))) (do_of (de_globI (by rfl) z_MOST_TIES)) (nomark _)) (dss_one (ds_raise0 (cls := "TooGreat") rfl tk x_TooGreat (by rfl))) dss_nil)
    (dss_cons (ds_setLcL (i := 4) (own := [("row", 9)]) rfl sc_put_in.nd rfl rfl (sw_true rfl rfl rfl (by decide +kernel)) (di_seq (lo := false) (de_var (pv 1))) (blkOk_by (own := [("row", 9)]) (by first | rfl | decide +kernel)) (fun _ _ _ _ _ => (dg_name sc_put_in.nd rfl (by first | exact Or.inl rfl | exact Or.inr rfl))) (fun _ _ _ _ _ => dts_nil) (fun _ _ _ _ _ => (de_ct cd_list (by rfl) z_list (by decide +kernel) (da_cons (do_var (pv 9)) da_nil))) (by decide))
    (dss_cons (ds_set (i := 5) sc_put_in.nd rfl (by first | exact Or.inl rfl | exact Or.inr rfl) (de_call tk G_corner_place hr (by rfl) g_corner_place k_corner_place B_corner_place rfl (da_cons (do_var (pv 0)) (da_cons (do_var (pv 2)) da_nil))))
    (dss_cons (ds_set (i := 6) sc_put_in.nd rfl (by first | exact Or.inl rfl | exact Or.inr rfl) (de_call tk G_corner_place hr (by rfl) g_corner_place k_corner_place B_corner_place rfl (da_cons (do_var (pv 0)) (da_cons (do_var (pv 3)) da_nil))))
    (dss_cons (ds_expr (de_callIx tk G_put_behind hr (by rfl) g_put_behind k_put_behind B_put_behind rfl (pv 4) (do_var (pv 5)) (fun _ _ => rfl) (da_cons (do_var (pv 2)) (da_cons (do_of (de_bin od_mul (do_of de_int) (do_of (de_cb cd_len (by rfl) z_len (by decide +kernel) (da_cons (do_var (pv 8)) da_nil))))) da_nil))))
    (dss_cons (ds_expr (de_callIx tk G_put_behind hr (by rfl) g_put_behind k_put_behind B_put_behind rfl (pv 4) (do_var (pv 6)) (fun _ _ => rfl) (da_cons (do_var (pv 3)) (da_cons (do_of (de_bin od_add (do_of (de_bin od_mul (do_of de_int) (do_of (de_cb cd_len (by rfl) z_len (by decide +kernel) (da_cons (do_var (pv 8)) da_nil))))) (do_of de_int))) da_nil))))
    (dss_one (ds_ret (de_tup (da_cons (do_of (de_tup (da_cons (do_of (de_var (pv 7))) (da_cons (do_of (de_bin od_add (do_var (pv 8)) (do_of (de_tup (da_cons (do_of (de_tup (da_cons (do_of (de_var (pv 5))) (da_cons (do_of (de_var (pv 6))) da_nil)))) da_nil))))) da_nil)))) (da_cons (do_of (de_ct cd_tuple (by rfl) z_tuple (by decide +kernel) (da_cons (do_of (de_lc (own := [("row", 9)]) rfl sc_put_in.nd (di_seq (lo := false) (de_var (pv 4))) (blkOk_by (own := [("row", 9)]) (by first | rfl | decide +kernel)) (fun _ _ _ _ _ => (dg_name sc_put_in.nd rfl (by first | exact Or.inl rfl | exact Or.inr rfl))) (fun _ _ _ _ _ => dts_nil) (fun _ _ _ _ _ => (de_call takesN0 G_begun hr (by rfl) g_begun k_begun B_begun rfl (da_cons (do_var (pv 9)) da_nil))) (by decide))) da_nil))) da_nil)))))))))))))
theorem sc_Lpen : FnScope ["_law_script", "_law_cell"] ["_law_script"] (defScope s_Lpen) := ⟨rfl, rfl, rfl, by decide +kernel, rfl, by decide +kernel, by decide +kernel⟩
set_option maxHeartbeats 4000000 in
theorem ok_Lpen {k : Nat} {f : Addr} {fd : FuncData} (F : Fun K "_law_pen" "_law_pen" s_Lpen f fd) :
    FnOk P w K mg base (L2N.CX P w) (k + 1) f fd ["_law_script"] (spD K mg (defSem 1 2 b_Lpen_3d2f) 1) :=
  def_ok (N := ["_law_script", "_law_cell"]) F sc_Lpen (by decide) fun cdv A outer s H E hr tk =>
    (dss_one (ds_ret (de_lst (da_cons (do_of (de_lc (own := [("_law_cell", 1)]) rfl sc_Lpen.nd (di_seq (lo := false) (de_slice (do_var (pv 0)) dp_none (dp_some (do_of de_int)))) (blkOk_by (own := [("_law_cell", 1)]) (by first | rfl | decide +kernel)) (fun _ _ _ _ _ => (dg_name sc_Lpen.nd rfl (by first | exact Or.inl rfl | exact Or.inr rfl))) (fun _ _ _ _ _ => dts_nil) (fun _ _ _ _ _ => (de_var (pv 1))) (by decide))) (da_cons (do_of de_int) (da_cons (do_of de_int) da_nil))))))
theorem sc_Ldraw : FnScope ["_law_pen_here", "_law_many", "_law_at", "_law_cell", "_law_number", "_law_digit"] ["_law_pen_here", "_law_many"] (defScope s_Ldraw) := ⟨rfl, rfl, rfl, by decide +kernel, rfl, by decide +kernel, by decide +kernel⟩
set_option maxHeartbeats 4000000 in
theorem ok_Ldraw {k : Nat} {f : Addr} {fd : FuncData} (F : Fun K "_law_draw" "_law_draw" s_Ldraw f fd) (z_len : mg "len" = none) (z_abs : mg "abs" = none) :
    FnOk P w K mg base (L2N.CX P w) (k + 1) f fd ["_law_pen_here", "_law_many"] (spD K mg (defSem 2 6 b_Ldraw_de5b) 2) :=
  def_ok (N := ["_law_pen_here", "_law_many", "_law_at", "_law_cell", "_law_number", "_law_digit"]) F sc_Ldraw (by decide) fun cdv A outer s H E hr tk =>
    (dss_cons (ds_if (db_cmp od_gt (do_of (de_ix ixd_get (do_var (pv 0)) (do_of de_int) (fun _ _ => rfl))) (do_of de_int) (nomark _)) (dss_cons (ds_set (i := 5) sc_Ldraw.nd rfl (by first | exact Or.inl rfl | exact Or.inr rfl) (de_bin od_mod (do_of (de_ix ixd_get (do_var (pv 0)) (do_of de_int) (fun _ _ => rfl))) (do_var (pv 1))))
    (dss_cons (ds_sub (pv 0) (de_bin od_div (do_of (de_ix ixd_get (do_var (pv 0)) (do_of de_int) (fun _ _ => rfl))) (do_var (pv 1))) (do_of de_int))
    (dss_one (ds_ret (de_var (pv 5)))))) dss_nil)
    (dss_cons (ds_set (i := 2) sc_Ldraw.nd rfl (by first | exact Or.inl rfl | exact Or.inr rfl) (de_ix ixd_get (do_var (pv 0)) (do_of de_int) (fun _ _ => rfl)))
    (dss_cons (ds_sub (pv 0) (de_bin od_add (do_var (pv 2)) (do_of de_int)) (do_of de_int))
    (dss_cons (ds_set (i := 3) sc_Ldraw.nd rfl (by first | exact Or.inl rfl | exact Or.inr rfl) de_int)
    (dss_cons (ds_if (db_cmp od_gt (do_of (de_cb cd_len (by rfl) z_len (by decide +kernel) (da_cons (do_of (de_ix ixd_get (do_var (pv 0)) (do_of de_int) (fun _ _ => rfl))) da_nil))) (do_of de_int) (nomark _)) (dss_one (ds_set (i := 3) sc_Ldraw.nd rfl (by first | exact Or.inl rfl | exact Or.inr rfl) (de_ix ixd_get (do_of (de_ix ixd_get (do_var (pv 0)) (do_of de_int) (fun _ _ => rfl))) (do_of (de_bin od_mod (do_var (pv 2)) (do_of (de_cb cd_len (by rfl) z_len (by decide +kernel) (da_cons (do_of (de_ix ixd_get (do_var (pv 0)) (do_of de_int) (fun _ _ => rfl))) da_nil))))) (fun _ _ => rfl)))) dss_nil)
    (dss_cons (ds_if (db_w (dw_and (db_cmp od_lt (do_var (pv 2)) (do_of (de_cb cd_len (by rfl) z_len (by decide +kernel) (da_cons (do_of (de_ix ixd_get (do_var (pv 0)) (do_of de_int) (fun _ _ => rfl))) da_nil))) (nomark _)) (dw_and1 (db_cmp od_ge (do_of (de_cb cd_abs (by rfl) z_abs (by decide +kernel) (da_cons (do_var (pv 3)) da_nil))) (do_of (de_bin od_pow (do_of de_int) (do_of de_int))) (nomark _))))) (dss_cons (ds_sub (pv 0) (de_bin od_div (do_of (de_cb cd_abs (by rfl) z_abs (by decide +kernel) (da_cons (do_var (pv 3)) da_nil))) (do_var (pv 1))) (do_of de_int))
    (dss_one (ds_ret (de_bin od_mod (do_of (de_cb cd_abs (by rfl) z_abs (by decide +kernel) (da_cons (do_var (pv 3)) da_nil))) (do_var (pv 1)))))) dss_nil)
    (dss_cons (ds_set (i := 4) sc_Ldraw.nd rfl (by first | exact Or.inl rfl | exact Or.inr rfl) (de_bin od_mod (do_of (de_bin od_mul (do_of (de_bin od_add (do_of (de_bin od_add (do_of (de_bin od_mod (do_var (pv 3)) (do_of de_int))) (do_of (de_bin od_mul (do_of de_int) (do_var (pv 2)))))) (do_of de_int))) (do_of de_int))) (do_of de_int)))
    (dss_cons (ds_set (i := 4) sc_Ldraw.nd rfl (by first | exact Or.inl rfl | exact Or.inr rfl) (de_bin od_mod (do_of (de_bin od_add (do_of (de_bin od_add (do_of (de_bin od_mul (do_var (pv 4)) (do_var (pv 4)))) (do_of (de_bin od_mul (do_of de_int) (do_var (pv 4)))))) (do_var (pv 2)))) (do_of de_int)))
    (dss_one (ds_ret (de_bin od_mod (do_of (de_bin od_div (do_of (de_bin od_mod (do_of (de_bin od_mul (do_var (pv 4)) (do_of de_int))) (do_of de_int))) (do_of de_int))) (do_var (pv 1)))))))))))))
theorem sc_Lweb : FnScope ["_law_pen_here", "_law_places", "_law_ties", "_law_many", "_law_way", "_law_count", "_law_found", "_law_k", "_law_a", "_law_b"] ["_law_pen_here", "_law_places", "_law_ties"] (defScope s_Lweb) := ⟨rfl, rfl, rfl, by decide +kernel, rfl, by decide +kernel, by decide +kernel⟩
set_option maxHeartbeats 4000000 in
theorem ok_Lweb {k : Nat} {f : Addr} {fd : FuncData} (F : Fun K "_law_web" "_law_web" s_Lweb f fd) {f_Ldraw : Addr} {fd_Ldraw : FuncData} (G_Ldraw : FnOk P w K mg base (L2N.CX P w) k f_Ldraw fd_Ldraw ["_law_pen_here", "_law_many"] (spD K mg sem_Ldraw_de5b 2)) (g_Ldraw : mg "_law_draw" = some (.ref f_Ldraw)) (k_Ldraw : PySem.W.keepIn K (.ref f_Ldraw) = true) (B_Ldraw : Binds K fd_Ldraw ["_law_pen_here", "_law_many"] []) (z_range : mg "range" = none) (z_min : mg "min" = none) (z_tuple : mg "tuple" = none) :
    FnOk P w K mg base (L2N.CX P w) (k + 1) f fd ["_law_pen_here", "_law_places", "_law_ties"] (spD K mg (defSem 3 10 b_Lweb_0350) 3) :=
  def_ok (N := ["_law_pen_here", "_law_places", "_law_ties", "_law_many", "_law_way", "_law_count", "_law_found", "_law_k", "_law_a", "_law_b"]) F sc_Lweb (by decide) fun cdv A outer s H E hr tk =>
    (dss_cons (ds_set (i := 3) sc_Lweb.nd rfl (by first | exact Or.inl rfl | exact Or.inr rfl) (de_bin od_add (do_of de_int) (do_of (de_call tk G_Ldraw hr (by rfl) g_Ldraw k_Ldraw B_Ldraw rfl (da_cons (do_var (pv 0)) (da_cons (do_var (pv 1)) da_nil))))))
    (dss_cons (ds_set (i := 4) sc_Lweb.nd rfl (by first | exact Or.inl rfl | exact Or.inr rfl) (de_call tk G_Ldraw hr (by rfl) g_Ldraw k_Ldraw B_Ldraw rfl (da_cons (do_var (pv 0)) (da_cons (do_of de_int) da_nil))))
    (dss_cons (ds_set (i := 5) sc_Lweb.nd rfl (by first | exact Or.inl rfl | exact Or.inr rfl) (de_call tk G_Ldraw hr (by rfl) g_Ldraw k_Ldraw B_Ldraw rfl (da_cons (do_var (pv 0)) (da_cons (do_of (de_bin od_add (do_var (pv 2)) (do_of de_int))) da_nil))))
    (dss_cons (ds_if (db_cmp (od_eq hr.units) (do_var (pv 4)) (do_of de_int) (nomark _)) (dss_cons (ds_set (i := 3) sc_Lweb.nd rfl (by first | exact Or.inl rfl | exact Or.inr rfl) (de_var (pv 1)))
    (dss_one (ds_set (i := 5) sc_Lweb.nd rfl (by first | exact Or.inl rfl | exact Or.inr rfl) (de_var (pv 2))))) dss_nil)
    (dss_cons (ds_set (i := 6) sc_Lweb.nd rfl (by first | exact Or.inl rfl | exact Or.inr rfl) (de_lst da_nil))
    (dss_cons (ds_for (passes_of rfl) rfl (di_rng1 (by rfl) z_range (do_var (pv 5))) (dg_name sc_Lweb.nd rfl (by first | exact Or.inl rfl | exact Or.inr rfl)) (dss_cons (ds_par (i := 8) (j := 9) rfl sc_Lweb.nd rfl rfl (by decide) rfl rfl (de_call tk G_Ldraw hr (by rfl) g_Ldraw k_Ldraw B_Ldraw rfl (da_cons (do_var (pv 0)) (da_cons (do_var (pv 3)) da_nil))) (de_call tk G_Ldraw hr (by rfl) g_Ldraw k_Ldraw B_Ldraw rfl (da_cons (do_var (pv 0)) (da_cons (do_var (pv 3)) da_nil))) (by rfl))
    (dss_cons (ds_if (db_cmp (od_eq hr.units) (do_var (pv 4)) (do_of de_int) (nomark _)) (dss_one (ds_par (i := 8) (j := 9) rfl sc_Lweb.nd rfl rfl (by decide) rfl rfl (de_bin od_mod (do_var (pv 7)) (do_var (pv 3))) (de_bin od_mod (do_of (de_bin od_add (do_var (pv 7)) (do_of de_int))) (do_var (pv 3))) (by rfl))) dss_nil)
    (dss_cons (ds_if (db_cmp (od_eq hr.units) (do_var (pv 4)) (do_of de_int) (nomark _)) (dss_one (ds_set (i := 8) sc_Lweb.nd rfl (by first | exact Or.inl rfl | exact Or.inr rfl) de_int)) dss_nil)
    (dss_cons (ds_if (db_cmp (od_eq hr.units) (do_var (pv 4)) (do_of de_int) (nomark _)) (dss_one (ds_set (i := 9) sc_Lweb.nd rfl (by first | exact Or.inl rfl | exact Or.inr rfl) (de_bin od_add (do_of (de_bin od_mod (do_var (pv 8)) (do_of de_int))) (do_of (de_bin od_mul (do_of (de_bin od_div (do_var (pv 9)) (do_of de_int))) (do_of de_int)))))) dss_nil)
    (dss_cons (ds_if (db_w (dw_and (db_cmp (od_eq hr.units) (do_var (pv 4)) (do_of de_int) (nomark _)) (dw_and1 (db_cmp (od_eq hr.units) (do_of (de_bin od_mod (do_var (pv 9)) (do_of de_int))) (do_of de_int) (nomark _))))) (dss_one (ds_set (i := 9) sc_Lweb.nd rfl (by first | exact Or.inl rfl | exact Or.inr rfl) (de_var (pv 8)))) dss_nil)
    (dss_one (ds_expr (de_mut PySem.F.plainAttrs_list PySem.F.slot_list_append PySem.F.type_list_append md_append (pv 6) (da_cons (do_of (de_tup (da_cons (do_of (de_var (pv 8))) (da_cons (do_of (de_cb (cd_min2 rfl) (by rfl) z_min (by decide +kernel) (da_cons (do_var (pv 9)) (da_cons (do_of (de_bin od_sub (do_var (pv 3)) (do_of de_int))) da_nil)))) da_nil)))) da_nil))))))))))
    (dss_one (ds_ret (de_tup (da_cons (do_of (de_var (pv 3))) (da_cons (do_of (de_ct cd_tuple (by rfl) z_tuple (by decide +kernel) (da_cons (do_var (pv 6)) da_nil))) da_nil)))))))))))
theorem sc_Lorder : FnScope ["_law_pen_here", "_law_web_here", "_law_rows", "_law_k", "_law_row", "_law_place"] ["_law_pen_here", "_law_web_here"] (defScope s_Lorder) := ⟨rfl, rfl, rfl, by decide +kernel, rfl, by decide +kernel, by decide +kernel⟩
set_option maxHeartbeats 4000000 in
theorem ok_Lorder {k : Nat} {f : Addr} {fd : FuncData} (F : Fun K "_law_order" "_law_order" s_Lorder f fd) {f_Ldraw : Addr} {fd_Ldraw : FuncData} (G_Ldraw : FnOk P w K mg base (L2N.CX P w) k f_Ldraw fd_Ldraw ["_law_pen_here", "_law_many"] (spD K mg sem_Ldraw_de5b 2)) (g_Ldraw : mg "_law_draw" = some (.ref f_Ldraw)) (k_Ldraw : PySem.W.keepIn K (.ref f_Ldraw) = true) (B_Ldraw : Binds K fd_Ldraw ["_law_pen_here", "_law_many"] []) (z_range : mg "range" = none) (z_len : mg "len" = none) (z_max : mg "max" = none) (z_min : mg "min" = none) (z_tuple : mg "tuple" = none) :
    FnOk P w K mg base (L2N.CX P w) (k + 1) f fd ["_law_pen_here", "_law_web_here"] (spD K mg (defSem 2 6 b_Lorder_8e8e) 2) :=
  def_ok (N := ["_law_pen_here", "_law_web_here", "_law_rows", "_law_k", "_law_row", "_law_place"]) F sc_Lorder (by decide) fun cdv A outer s H E hr tk =>
    (dss_cons (ds_setLcL (i := 2) (own := [("_law_place", 5)]) rfl sc_Lorder.nd rfl rfl (sw_true rfl rfl rfl (by decide +kernel)) (di_rng1 (by rfl) z_range (do_of (de_ix ixd_get (do_var (pv 1)) (do_of de_int) (fun _ _ => rfl)))) (blkOk_by (own := [("_law_place", 5)]) (by first | rfl | decide +kernel)) (fun _ _ _ _ _ => (dg_name sc_Lorder.nd rfl (by first | exact Or.inl rfl | exact Or.inr rfl))) (fun _ _ _ _ _ => dts_nil) (fun _ _ _ _ _ => (de_lst da_nil)) (by decide))
    (dss_cons (ds_for (passes_of rfl) rfl (di_rng1 (by rfl) z_range (do_of (de_bin od_mul (do_of de_int) (do_of (de_cb cd_len (by rfl) z_len (by decide +kernel) (da_cons (do_of (de_ix ixd_get (do_var (pv 1)) (do_of de_int) (fun _ _ => rfl))) da_nil)))))) (dg_name sc_Lorder.nd rfl (by first | exact Or.inl rfl | exact Or.inr rfl)) (dss_cons (ds_al sc_Lorder.nd rfl (by first | exact Or.inl rfl | exact Or.inr rfl) (pv 2) (do_of (de_ix ixd_get (do_of (de_ix ixd_get (do_of (de_ix ixd_get (do_var (pv 1)) (do_of de_int) (fun _ _ => rfl))) (do_of (de_bin od_div (do_var (pv 3)) (do_of de_int))) (fun _ _ => rfl))) (do_of (de_bin od_mod (do_var (pv 3)) (do_of de_int))) (fun _ _ => rfl))) (fun _ _ => rfl))
    (dss_one (ds_expr (de_mut PySem.F.plainAttrs_list PySem.F.slot_list_insert PySem.F.type_list_insert md_insert (pv 4) (da_cons (do_of (de_cb (cd_min2 rfl) (by rfl) z_min (by decide +kernel) (da_cons (do_of (de_cb cd_len (by rfl) z_len (by decide +kernel) (da_cons (do_var (pv 4)) da_nil))) (da_cons (do_of (de_bin od_add (do_of de_int) (do_of (de_call tk G_Ldraw hr (by rfl) g_Ldraw k_Ldraw B_Ldraw rfl (da_cons (do_var (pv 0)) (da_cons (do_of (de_cb (cd_max2 rfl) (by rfl) z_max (by decide +kernel) (da_cons (do_of de_int) (da_cons (do_of (de_cb cd_len (by rfl) z_len (by decide +kernel) (da_cons (do_var (pv 4)) da_nil))) da_nil)))) da_nil)))))) da_nil)))) (da_cons (do_of (de_var (pv 3))) da_nil)))))))
    (dss_one (ds_ret (de_ct cd_tuple (by rfl) z_tuple (by decide +kernel) (da_cons (do_of (de_lc (own := [("_law_row", 4)]) rfl sc_Lorder.nd (di_seq (lo := false) (de_var (pv 2))) (blkOk_by (own := [("_law_row", 4)]) (by first | rfl | decide +kernel)) (fun _ _ _ _ _ => (dg_name sc_Lorder.nd rfl (by first | exact Or.inl rfl | exact Or.inr rfl))) (fun _ _ _ _ _ => dts_nil) (fun _ _ _ _ _ => (de_ct cd_tuple (by rfl) z_tuple (by decide +kernel) (da_cons (do_var (pv 4)) da_nil))) (by decide))) da_nil))))))
theorem sc_Lcorner : FnScope ["_law_pen_here", "_law_web_here", "_law_order_here", "_law_bare", "_law_place"] ["_law_pen_here", "_law_web_here", "_law_order_here"] (defScope s_Lcorner) := ⟨rfl, rfl, rfl, by decide +kernel, rfl, by decide +kernel, by decide +kernel⟩
set_option maxHeartbeats 4000000 in
theorem ok_Lcorner {k : Nat} {f : Addr} {fd : FuncData} (F : Fun K "_law_corner" "_law_corner" s_Lcorner f fd) {f_Ldraw : Addr} {fd_Ldraw : FuncData} (G_Ldraw : FnOk P w K mg base (L2N.CX P w) k f_Ldraw fd_Ldraw ["_law_pen_here", "_law_many"] (spD K mg sem_Ldraw_de5b 2)) (g_Ldraw : mg "_law_draw" = some (.ref f_Ldraw)) (k_Ldraw : PySem.W.keepIn K (.ref f_Ldraw) = true) (B_Ldraw : Binds K fd_Ldraw ["_law_pen_here", "_law_many"] []) (z_range : mg "range" = none) (z_len : mg "len" = none) :
    FnOk P w K mg base (L2N.CX P w) (k + 1) f fd ["_law_pen_here", "_law_web_here", "_law_order_here"] (spD K mg (defSem 3 5 b_Lcorner_5df4) 3) :=
  def_ok (N := ["_law_pen_here", "_law_web_here", "_law_order_here", "_law_bare", "_law_place"]) F sc_Lcorner (by decide) fun cdv A outer s H E hr tk =>
    (dss_cons (ds_setLc (i := 3) (own := [("_law_place", 4)]) rfl sc_Lcorner.nd rfl rfl (sw_true rfl rfl rfl (by decide +kernel)) (di_rng1 (by rfl) z_range (do_of (de_ix ixd_get (do_var (pv 1)) (do_of de_int) (fun _ _ => rfl)))) (blkOk_by (own := [("_law_place", 4)]) (by first | rfl | decide +kernel)) (fun _ _ _ _ _ => (dg_name sc_Lcorner.nd rfl (by first | exact Or.inl rfl | exact Or.inr rfl))) (fun _ _ _ _ _ => (dts_one (db_cmp (od_eq hr.units) (do_of (de_ix ixd_get (do_var (pv 2)) (do_var (pv 4)) (fun _ _ => rfl))) (do_of (de_tup da_nil)) (nomark _)))) (fun _ _ _ _ _ => (de_var (pv 4))) (by decide))
    (dss_cons (ds_if (db_w (dw_or (db_cmp (od_eq hr.units) (do_of (de_cb cd_len (by rfl) z_len (by decide +kernel) (da_cons (do_of (de_ix ixd_get (do_var (pv 1)) (do_of de_int) (fun _ _ => rfl))) da_nil))) (do_of de_int) (nomark _)) (dw_or1 (db_w (dw_and (db_cmp od_gt (do_of (de_cb cd_len (by rfl) z_len (by decide +kernel) (da_cons (do_var (pv 3)) da_nil))) (do_of de_int) (nomark _)) (dw_and1 (db_cmp (od_eq hr.units) (do_of (de_call tk G_Ldraw hr (by rfl) g_Ldraw k_Ldraw B_Ldraw rfl (da_cons (do_var (pv 0)) (da_cons (do_of de_int) da_nil)))) (do_of de_int) (nomark _)))))))) (dss_one (ds_ret (de_tup (da_cons (do_of de_str) (da_cons (do_of (de_ix ixd_get (do_var (pv 3)) (do_of (de_call tk G_Ldraw hr (by rfl) g_Ldraw k_Ldraw B_Ldraw rfl (da_cons (do_var (pv 0)) (da_cons (do_of (de_cb cd_len (by rfl) z_len (by decide +kernel) (da_cons (do_var (pv 3)) da_nil))) da_nil)))) (fun _ _ => rfl))) da_nil))))) dss_nil)
    (dss_one (ds_ret (de_call tk G_Ldraw hr (by rfl) g_Ldraw k_Ldraw B_Ldraw rfl (da_cons (do_var (pv 0)) (da_cons (do_of (de_bin od_mul (do_of de_int) (do_of (de_cb cd_len (by rfl) z_len (by decide +kernel) (da_cons (do_of (de_ix ixd_get (do_var (pv 1)) (do_of de_int) (fun _ _ => rfl))) da_nil))))) da_nil)))))))
theorem sc_Lrefused : FnScope ["_law_asked", "_law_web_here", "_law_order_here", "_law_one", "_law_other"] ["_law_asked"] (defScope s_Lrefused) := ⟨rfl, rfl, rfl, by decide +kernel, rfl, by decide +kernel, by decide +kernel⟩
set_option maxHeartbeats 4000000 in
theorem ok_Lrefused {k : Nat} {f : Addr} {fd : FuncData} (F : Fun K "_law_refused" "_law_refused" s_Lrefused f fd) {f_put_in : Addr} {fd_put_in : FuncData} (G_put_in : FnOk P w K mg base (L2N.CX P w) k f_put_in fd_put_in ["web", "order", "one", "other"] (spD K mg sem_put_in_c1efR 4)) (g_put_in : mg "put_in" = some (.ref f_put_in)) (k_put_in : PySem.W.keepIn K (.ref f_put_in) = true) (B_put_in : Binds K fd_put_in ["web", "order", "one", "other"] []) :
    FnOk P w K mg base (L2N.CX P w) (k + 1) f fd ["_law_asked"] (spD K mg (defSem 1 5 b_Lrefused_b97aR) 1) :=
  def_ok (N := ["_law_asked", "_law_web_here", "_law_order_here", "_law_one", "_law_other"]) F sc_Lrefused (by decide) fun cdv A outer s H E hr tk =>
    (dss_cons (ds_unp (de_var (pv 0)) (dg_tup rfl (dgs_cons (dg_name sc_Lrefused.nd rfl (by first | exact Or.inl rfl | exact Or.inr rfl)) (dgs_cons (dg_name sc_Lrefused.nd rfl (by first | exact Or.inl rfl | exact Or.inr rfl)) (dgs_cons (dg_name sc_Lrefused.nd rfl (by first | exact Or.inl rfl | exact Or.inr rfl)) (dgs_cons (dg_name sc_Lrefused.nd rfl (by first | exact Or.inl rfl | exact Or.inr rfl)) dgs_nil))))) (setT_nx (by simp only [List.forall_mem_cons, List.not_mem_nil, false_imp_iff, implies_true, and_true]; exact ⟨setN_nx _, setN_nx _, setN_nx _, setN_nx _⟩)))
    (dss_one (ds_ret (de_call tk G_put_in hr (by rfl) g_put_in k_put_in B_put_in rfl (da_cons (do_var (pv 1)) (da_cons (do_var (pv 2)) (da_cons (do_var (pv 3)) (da_cons (do_var (pv 4)) da_nil))))))))
theorem sc_Lrefusal : FnScope ["_law_call", "_law_things", "e", "_law_found", "_law_k"] ["_law_call", "_law_things"] (defScope s_Lrefusal) := ⟨rfl, rfl, rfl, by decide +kernel, rfl, by decide +kernel, by decide +kernel⟩
set_option maxHeartbeats 4000000 in
theorem ok_Lrefusal {k : Nat} {f : Addr} {fd : FuncData} (F : Fun K "_law_refusal" "_law_refusal" s_Lrefusal f fd) {f_Lrefused : Addr} {fd_Lrefused : FuncData} (G_Lrefused : FnOk P w K mg base (L2N.CX P w) k f_Lrefused fd_Lrefused ["_law_asked"] (spD K mg sem_Lrefused_b97aR 1)) (g_Lrefused : mg "_law_refused" = some (.ref f_Lrefused)) (k_Lrefused : PySem.W.keepIn K (.ref f_Lrefused) = true) (B_Lrefused : Binds K fd_Lrefused ["_law_asked"] []) (a_Lrefused : PySem.W.nsIn K mainGlobals "_law_refused" = some (some (.ref f_Lrefused))) (z_isinstance : mg "isinstance" = none) (z_ValueError : mg "ValueError" = none) (z_range : mg "range" = none) {C_NoWeb : Addr} {C_NoEnd : Addr} {C_NoOrder : Addr} {C_NoNumber : Addr} {C_NoTie : Addr} {C_NoPlace : Addr} {C_NoTable : Addr} {C_NoRing : Addr} {C_NoPaper : Addr} {C_Apart : Addr} {C_TooMany : Addr} {C_TooGreat : Addr} {C_NoText : Addr} {C_NoName : Addr} {C_NoRow : Addr} {C_FloorError : Addr} (gx_NoWeb : mg "NoWeb" = some (.ref C_NoWeb)) (xc_NoEnd : ExcC K C_NoEnd) (kk_NoEnd_NoWeb : PySem.W.kitOne K (.ref C_NoEnd) (.ref C_NoWeb) = some false) (gx_NoOrder : mg "NoOrder" = some (.ref C_NoOrder)) (kk_NoEnd_NoOrder : PySem.W.kitOne K (.ref C_NoEnd) (.ref C_NoOrder) = some false) (gx_NoNumber : mg "NoNumber" = some (.ref C_NoNumber)) (kk_NoEnd_NoNumber : PySem.W.kitOne K (.ref C_NoEnd) (.ref C_NoNumber) = some false) (gx_NoEnd : mg "NoEnd" = some (.ref C_NoEnd)) (kk_NoEnd_NoEnd : PySem.W.kitOne K (.ref C_NoEnd) (.ref C_NoEnd) = some true) (gx_NoTie : mg "NoTie" = some (.ref C_NoTie)) (kk_NoEnd_NoTie : PySem.W.kitOne K (.ref C_NoEnd) (.ref C_NoTie) = some false) (gx_NoPlace : mg "NoPlace" = some (.ref C_NoPlace)) (kk_NoEnd_NoPlace : PySem.W.kitOne K (.ref C_NoEnd) (.ref C_NoPlace) = some false) (gx_NoTable : mg "NoTable" = some (.ref C_NoTable)) (kk_NoEnd_NoTable : PySem.W.kitOne K (.ref C_NoEnd) (.ref C_NoTable) = some false) (gx_NoRing : mg "NoRing" = some (.ref C_NoRing)) (kk_NoEnd_NoRing : PySem.W.kitOne K (.ref C_NoEnd) (.ref C_NoRing) = some false) (gx_NoPaper : mg "NoPaper" = some (.ref C_NoPaper)) (kk_NoEnd_NoPaper : PySem.W.kitOne K (.ref C_NoEnd) (.ref C_NoPaper) = some false) (gx_Apart : mg "Apart" = some (.ref C_Apart)) (kk_NoEnd_Apart : PySem.W.kitOne K (.ref C_NoEnd) (.ref C_Apart) = some false) (gx_TooMany : mg "TooMany" = some (.ref C_TooMany)) (kk_NoEnd_TooMany : PySem.W.kitOne K (.ref C_NoEnd) (.ref C_TooMany) = some false) (gx_TooGreat : mg "TooGreat" = some (.ref C_TooGreat)) (kk_NoEnd_TooGreat : PySem.W.kitOne K (.ref C_NoEnd) (.ref C_TooGreat) = some false) (gx_NoText : mg "NoText" = some (.ref C_NoText)) (kk_NoEnd_NoText : PySem.W.kitOne K (.ref C_NoEnd) (.ref C_NoText) = some false) (gx_NoName : mg "NoName" = some (.ref C_NoName)) (kk_NoEnd_NoName : PySem.W.kitOne K (.ref C_NoEnd) (.ref C_NoName) = some false) (gx_NoRow : mg "NoRow" = some (.ref C_NoRow)) (kk_NoEnd_NoRow : PySem.W.kitOne K (.ref C_NoEnd) (.ref C_NoRow) = some false) (kk_NoEnd_ValueError : PySem.W.kitOne K (.ref C_NoEnd) (.type "ValueError") = some true) (x_NoEnd : ExK K mg "NoEnd" C_NoEnd) (xe_NoEnd_FloorError : PySem.W.exmOne K (.ref C_NoEnd) (.ref C_FloorError) = some true) (xc_TooGreat : ExcC K C_TooGreat) (kk_TooGreat_NoWeb : PySem.W.kitOne K (.ref C_TooGreat) (.ref C_NoWeb) = some false) (kk_TooGreat_NoOrder : PySem.W.kitOne K (.ref C_TooGreat) (.ref C_NoOrder) = some false) (kk_TooGreat_NoNumber : PySem.W.kitOne K (.ref C_TooGreat) (.ref C_NoNumber) = some false) (kk_TooGreat_NoEnd : PySem.W.kitOne K (.ref C_TooGreat) (.ref C_NoEnd) = some false) (kk_TooGreat_NoTie : PySem.W.kitOne K (.ref C_TooGreat) (.ref C_NoTie) = some false) (kk_TooGreat_NoPlace : PySem.W.kitOne K (.ref C_TooGreat) (.ref C_NoPlace) = some false) (kk_TooGreat_NoTable : PySem.W.kitOne K (.ref C_TooGreat) (.ref C_NoTable) = some false) (kk_TooGreat_NoRing : PySem.W.kitOne K (.ref C_TooGreat) (.ref C_NoRing) = some false) (kk_TooGreat_NoPaper : PySem.W.kitOne K (.ref C_TooGreat) (.ref C_NoPaper) = some false) (kk_TooGreat_Apart : PySem.W.kitOne K (.ref C_TooGreat) (.ref C_Apart) = some false) (kk_TooGreat_TooMany : PySem.W.kitOne K (.ref C_TooGreat) (.ref C_TooMany) = some false) (kk_TooGreat_TooGreat : PySem.W.kitOne K (.ref C_TooGreat) (.ref C_TooGreat) = some true) (kk_TooGreat_NoText : PySem.W.kitOne K (.ref C_TooGreat) (.ref C_NoText) = some false) (kk_TooGreat_NoName : PySem.W.kitOne K (.ref C_TooGreat) (.ref C_NoName) = some false) (kk_TooGreat_NoRow : PySem.W.kitOne K (.ref C_TooGreat) (.ref C_NoRow) = some false) (kk_TooGreat_ValueError : PySem.W.kitOne K (.ref C_TooGreat) (.type "ValueError") = some true) (x_TooGreat : ExK K mg "TooGreat" C_TooGreat) (xe_TooGreat_FloorError : PySem.W.exmOne K (.ref C_TooGreat) (.ref C_FloorError) = some true) (gx_FloorError : mg "FloorError" = some (.ref C_FloorError)) :
    FnOk P w K mg base (L2N.CX P w) (k + 1) f fd ["_law_call", "_law_things"] (spD K mg (defSem 2 5 b_Lrefusal_9f4eR) 2) :=
  def_ok (N := ["_law_call", "_law_things", "e", "_law_found", "_law_k"]) F sc_Lrefusal (by decide) fun cdv A outer s H E hr tk =>
    (dss_cons (ds_tryS (i := 2) (L := ["NoEnd", "TooGreat"]) (ms := (exSelS "NoEnd" (sSeq (sSet 3 (mOp gLst [(oE (mC (.bool false))), (oE (mC (.bool false))), (oE (mC (.bool false))), (oE (mC (.bool true)))])) (sSeq (sSet 3 (mOp gAdd [(oS 3), (oE (mOp gLst [(oE (mC (.bool false))), (oE (mC (.bool false))), (oE (mC (.bool false))), (oE (mC (.bool false)))]))])) (sSeq (sSet 3 (mOp gAdd [(oS 3), (oE (mOp gLst [(oE (mC (.bool false))), (oE (mC (.bool false))), (oE (mC (.bool false))), (oE (mC (.bool false)))]))])) (sSeq (sSet 3 (mOp gAdd [(oS 3), (oE (mOp gLst [(oE (mC (.bool false))), (oE (mC (.bool false))), (oE (mC (.bool false)))]))])) (sRet (mLc [4] (mOpL gRng1 [(oE (mC (.int 15)))]) (setN 4) (mTst (mOp gIx [(oS 3), (oS 4)])) (mRd 4))))))) (sSeq (sSet 3 (mOp gLst [(oE (mC (.bool false))), (oE (mC (.bool false))), (oE (mC (.bool false))), (oE (mC (.bool false)))])) (sSeq (sSet 3 (mOp gAdd [(oS 3), (oE (mOp gLst [(oE (mC (.bool false))), (oE (mC (.bool false))), (oE (mC (.bool false))), (oE (mC (.bool false)))]))])) (sSeq (sSet 3 (mOp gAdd [(oS 3), (oE (mOp gLst [(oE (mC (.bool false))), (oE (mC (.bool false))), (oE (mC (.bool false))), (oE (mC (.bool true)))]))])) (sSeq (sSet 3 (mOp gAdd [(oS 3), (oE (mOp gLst [(oE (mC (.bool false))), (oE (mC (.bool false))), (oE (mC (.bool false)))]))])) (sRet (mLc [4] (mOpL gRng1 [(oE (mC (.int 15)))]) (setN 4) (mTst (mOp gIx [(oS 3), (oS 4)])) (mRd 4))))))))) rfl rfl sc_Lrefusal.nd rfl rfl ⟨by rfl, by decide, .inl gx_FloorError⟩ tk (fun _ _ _ tk _ => (dss_one (ds_expr (de_callV (n := 1) tk (tbl_cons ⟨⟨f_Lrefused, fd_Lrefused, _, G_Lrefused, a_Lrefused, k_Lrefused, B_Lrefused, rfl⟩⟩ tbl_nil) hr (pv 0) rfl (da_cons (do_of (de_var (pv 1))) da_nil))))) (two_L x_NoEnd.gC x_TooGreat.gC xe_NoEnd_FloorError xe_TooGreat_FloorError) (two_SX x_NoEnd.gC x_TooGreat.gC (by decide) (fun a oe pn hz hf => (dxx_set (j := 3) sc_Lrefusal.nd rfl (by first | exact Or.inl rfl | exact Or.inr rfl) (dex_lst (dax_cons (dex_isi xc_NoEnd hz hf (by rfl) z_isinstance (pv 2) (pe_glob (v := .ref C_NoWeb) (by rfl) gx_NoWeb rfl) (.own _) kk_NoEnd_NoWeb) (dax_cons (dex_isi xc_NoEnd hz hf (by rfl) z_isinstance (pv 2) (pe_glob (v := .ref C_NoOrder) (by rfl) gx_NoOrder rfl) (.own _) kk_NoEnd_NoOrder) (dax_cons (dex_isi xc_NoEnd hz hf (by rfl) z_isinstance (pv 2) (pe_glob (v := .ref C_NoNumber) (by rfl) gx_NoNumber rfl) (.own _) kk_NoEnd_NoNumber) (dax_cons (dex_isi xc_NoEnd hz hf (by rfl) z_isinstance (pv 2) (pe_glob (v := .ref C_NoEnd) (by rfl) gx_NoEnd rfl) (.own _) kk_NoEnd_NoEnd) dax_nil))))) (dxx_set (j := 3) sc_Lrefusal.nd rfl (by first | exact Or.inl rfl | exact Or.inr rfl) (dex_bin od_add (do_var (pv 3)) (dex_lst (dax_cons (dex_isi xc_NoEnd hz hf (by rfl) z_isinstance (pv 2) (pe_glob (v := .ref C_NoTie) (by rfl) gx_NoTie rfl) (.own _) kk_NoEnd_NoTie) (dax_cons (dex_isi xc_NoEnd hz hf (by rfl) z_isinstance (pv 2) (pe_glob (v := .ref C_NoPlace) (by rfl) gx_NoPlace rfl) (.own _) kk_NoEnd_NoPlace) (dax_cons (dex_isi xc_NoEnd hz hf (by rfl) z_isinstance (pv 2) (pe_glob (v := .ref C_NoTable) (by rfl) gx_NoTable rfl) (.own _) kk_NoEnd_NoTable) (dax_cons (dex_isi xc_NoEnd hz hf (by rfl) z_isinstance (pv 2) (pe_glob (v := .ref C_NoRing) (by rfl) gx_NoRing rfl) (.own _) kk_NoEnd_NoRing) dax_nil)))))) (dxx_set (j := 3) sc_Lrefusal.nd rfl (by first | exact Or.inl rfl | exact Or.inr rfl) (dex_bin od_add (do_var (pv 3)) (dex_lst (dax_cons (dex_isi xc_NoEnd hz hf (by rfl) z_isinstance (pv 2) (pe_glob (v := .ref C_NoPaper) (by rfl) gx_NoPaper rfl) (.own _) kk_NoEnd_NoPaper) (dax_cons (dex_isi xc_NoEnd hz hf (by rfl) z_isinstance (pv 2) (pe_glob (v := .ref C_Apart) (by rfl) gx_Apart rfl) (.own _) kk_NoEnd_Apart) (dax_cons (dex_isi xc_NoEnd hz hf (by rfl) z_isinstance (pv 2) (pe_glob (v := .ref C_TooMany) (by rfl) gx_TooMany rfl) (.own _) kk_NoEnd_TooMany) (dax_cons (dex_isi xc_NoEnd hz hf (by rfl) z_isinstance (pv 2) (pe_glob (v := .ref C_TooGreat) (by rfl) gx_TooGreat rfl) (.own _) kk_NoEnd_TooGreat) dax_nil)))))) (dxx_set (j := 3) sc_Lrefusal.nd rfl (by first | exact Or.inl rfl | exact Or.inr rfl) (dex_bin od_add (do_var (pv 3)) (dex_lst (dax_cons (dex_isi xc_NoEnd hz hf (by rfl) z_isinstance (pv 2) (pe_glob (v := .ref C_NoText) (by rfl) gx_NoText rfl) (.own _) kk_NoEnd_NoText) (dax_cons (dex_isi xc_NoEnd hz hf (by rfl) z_isinstance (pv 2) (pe_glob (v := .ref C_NoName) (by rfl) gx_NoName rfl) (.own _) kk_NoEnd_NoName) (dax_cons (dex_isi xc_NoEnd hz hf (by rfl) z_isinstance (pv 2) (pe_glob (v := .ref C_NoRow) (by rfl) gx_NoRow rfl) (.own _) kk_NoEnd_NoRow) dax_nil))))) (dxx_skipNot (dex_isi xc_NoEnd hz hf (by rfl) z_isinstance (pv 2) (pe_bltn (v := .ty "ValueError") (by rfl) z_ValueError (by rfl) rfl) (.ty _) kk_NoEnd_ValueError) (dxx_of (dss_one (ds_ret (de_lcK (lo := false) (own := [("_law_k", 4)]) (hot_suite hz hf) sc_Lrefusal.nd (dik_rng1 (by rfl) z_range (do_of de_int)) (blkOk_by (own := [("_law_k", 4)]) (by first | rfl | decide +kernel)) (fun _ _ _ _ _ => (dg_name sc_Lrefusal.nd rfl (by first | exact Or.inl rfl | exact Or.inr rfl))) (fun _ _ _ _ _ => (dts_one (db_val (de_ix ixd_get (do_var (pv 3)) (do_var (pv 4)) (fun _ _ => rfl))))) (fun _ _ _ _ _ => (de_var (pv 4))) (by decide))))))))))) (fun a oe pn hz hf => (dxx_set (j := 3) sc_Lrefusal.nd rfl (by first | exact Or.inl rfl | exact Or.inr rfl) (dex_lst (dax_cons (dex_isi xc_TooGreat hz hf (by rfl) z_isinstance (pv 2) (pe_glob (v := .ref C_NoWeb) (by rfl) gx_NoWeb rfl) (.own _) kk_TooGreat_NoWeb) (dax_cons (dex_isi xc_TooGreat hz hf (by rfl) z_isinstance (pv 2) (pe_glob (v := .ref C_NoOrder) (by rfl) gx_NoOrder rfl) (.own _) kk_TooGreat_NoOrder) (dax_cons (dex_isi xc_TooGreat hz hf (by rfl) z_isinstance (pv 2) (pe_glob (v := .ref C_NoNumber) (by rfl) gx_NoNumber rfl) (.own _) kk_TooGreat_NoNumber) (dax_cons (dex_isi xc_TooGreat hz hf (by rfl) z_isinstance (pv 2) (pe_glob (v := .ref C_NoEnd) (by rfl) gx_NoEnd rfl) (.own _) kk_TooGreat_NoEnd) dax_nil))))) (dxx_set (j := 3) sc_Lrefusal.nd rfl (by first | exact Or.inl rfl | exact Or.inr rfl) (dex_bin od_add (do_var (pv 3)) (dex_lst (dax_cons (dex_isi xc_TooGreat hz hf (by rfl) z_isinstance (pv 2) (pe_glob (v := .ref C_NoTie) (by rfl) gx_NoTie rfl) (.own _) kk_TooGreat_NoTie) (dax_cons (dex_isi xc_TooGreat hz hf (by rfl) z_isinstance (pv 2) (pe_glob (v := .ref C_NoPlace) (by rfl) gx_NoPlace rfl) (.own _) kk_TooGreat_NoPlace) (dax_cons (dex_isi xc_TooGreat hz hf (by rfl) z_isinstance (pv 2) (pe_glob (v := .ref C_NoTable) (by rfl) gx_NoTable rfl) (.own _) kk_TooGreat_NoTable) (dax_cons (dex_isi xc_TooGreat hz hf (by rfl) z_isinstance (pv 2) (pe_glob (v := .ref C_NoRing) (by rfl) gx_NoRing rfl) (.own _) kk_TooGreat_NoRing) dax_nil)))))) (dxx_set (j := 3) sc_Lrefusal.nd rfl (by first | exact Or.inl rfl | exact Or.inr rfl) (dex_bin od_add (do_var (pv 3)) (dex_lst (dax_cons (dex_isi xc_TooGreat hz hf (by rfl) z_isinstance (pv 2) (pe_glob (v := .ref C_NoPaper) (by rfl) gx_NoPaper rfl) (.own _) kk_TooGreat_NoPaper) (dax_cons (dex_isi xc_TooGreat hz hf (by rfl) z_isinstance (pv 2) (pe_glob (v := .ref C_Apart) (by rfl) gx_Apart rfl) (.own _) kk_TooGreat_Apart) (dax_cons (dex_isi xc_TooGreat hz hf (by rfl) z_isinstance (pv 2) (pe_glob (v := .ref C_TooMany) (by rfl) gx_TooMany rfl) (.own _) kk_TooGreat_TooMany) (dax_cons (dex_isi xc_TooGreat hz hf (by rfl) z_isinstance (pv 2) (pe_glob (v := .ref C_TooGreat) (by rfl) gx_TooGreat rfl) (.own _) kk_TooGreat_TooGreat) dax_nil)))))) (dxx_set (j := 3) sc_Lrefusal.nd rfl (by first | exact Or.inl rfl | exact Or.inr rfl) (dex_bin od_add (do_var (pv 3)) (dex_lst (dax_cons (dex_isi xc_TooGreat hz hf (by rfl) z_isinstance (pv 2) (pe_glob (v := .ref C_NoText) (by rfl) gx_NoText rfl) (.own _) kk_TooGreat_NoText) (dax_cons (dex_isi xc_TooGreat hz hf (by rfl) z_isinstance (pv 2) (pe_glob (v := .ref C_NoName) (by rfl) gx_NoName rfl) (.own _) kk_TooGreat_NoName) (dax_cons (dex_isi xc_TooGreat hz hf (by rfl) z_isinstance (pv 2) (pe_glob (v := .ref C_NoRow) (by rfl) gx_NoRow rfl) (.own _) kk_TooGreat_NoRow) dax_nil))))) (dxx_skipNot (dex_isi xc_TooGreat hz hf (by rfl) z_isinstance (pv 2) (pe_bltn (v := .ty "ValueError") (by rfl) z_ValueError (by rfl) rfl) (.ty _) kk_TooGreat_ValueError) (dxx_of (dss_one (ds_ret (de_lcK (lo := false) (own := [("_law_k", 4)]) (hot_suite hz hf) sc_Lrefusal.nd (dik_rng1 (by rfl) z_range (do_of de_int)) (blkOk_by (own := [("_law_k", 4)]) (by first | rfl | decide +kernel)) (fun _ _ _ _ _ => (dg_name sc_Lrefusal.nd rfl (by first | exact Or.inl rfl | exact Or.inr rfl))) (fun _ _ _ _ _ => (dts_one (db_val (de_ix ixd_get (do_var (pv 3)) (do_var (pv 4)) (fun _ _ => rfl))))) (fun _ _ _ _ _ => (de_var (pv 4))) (by decide)))))))))))))
    (dss_one (ds_ret de_non)))
theorem sc_Lbad : FnScope ["_law_pen_here", "_law_web_here", "_law_order_here", "_law_ends", "_law_full", "_law_bare", "_law_place", "_law_some"] ["_law_pen_here", "_law_web_here", "_law_order_here"] (defScope s_Lbad) := ⟨rfl, rfl, rfl, by decide +kernel, rfl, by decide +kernel, by decide +kernel⟩
set_option maxHeartbeats 4000000 in
theorem ok_Lbad {k : Nat} {f : Addr} {fd : FuncData} (F : Fun K "_law_bad" "_law_bad" s_Lbad f fd) {f_Ldraw : Addr} {fd_Ldraw : FuncData} (G_Ldraw : FnOk P w K mg base (L2N.CX P w) k f_Ldraw fd_Ldraw ["_law_pen_here", "_law_many"] (spD K mg sem_Ldraw_de5b 2)) (g_Ldraw : mg "_law_draw" = some (.ref f_Ldraw)) (k_Ldraw : PySem.W.keepIn K (.ref f_Ldraw) = true) (B_Ldraw : Binds K fd_Ldraw ["_law_pen_here", "_law_many"] []) (z_len : mg "len" = none) (z_range : mg "range" = none) :
    FnOk P w K mg base (L2N.CX P w) (k + 1) f fd ["_law_pen_here", "_law_web_here", "_law_order_here"] (spD K mg (defSem 3 8 b_Lbad_34c0) 3) :=
  def_ok (N := ["_law_pen_here", "_law_web_here", "_law_order_here", "_law_ends", "_law_full", "_law_bare", "_law_place", "_law_some"]) F sc_Lbad (by decide) fun cdv A outer s H E hr tk =>
    (dss_cons (ds_set (i := 3) sc_Lbad.nd rfl (by first | exact Or.inl rfl | exact Or.inr rfl) (de_bin od_mul (do_of de_int) (do_of (de_cb cd_len (by rfl) z_len (by decide +kernel) (da_cons (do_of (de_ix ixd_get (do_var (pv 1)) (do_of de_int) (fun _ _ => rfl))) da_nil)))))
    (dss_cons (ds_set (i := 4) sc_Lbad.nd rfl (by first | exact Or.inl rfl | exact Or.inr rfl) (de_bin od_add (do_of (de_lc (own := [("_law_place", 6)]) rfl sc_Lbad.nd (di_rng1 (by rfl) z_range (do_of (de_ix ixd_get (do_var (pv 1)) (do_of de_int) (fun _ _ => rfl)))) (blkOk_by (own := [("_law_place", 6)]) (by first | rfl | decide +kernel)) (fun _ _ _ _ _ => (dg_name sc_Lbad.nd rfl (by first | exact Or.inl rfl | exact Or.inr rfl))) (fun _ _ _ _ _ => (dts_one (db_cmp (od_ne hr.units) (do_of (de_ix ixd_get (do_var (pv 2)) (do_var (pv 6)) (fun _ _ => rfl))) (do_of (de_tup da_nil)) (nomark _)))) (fun _ _ _ _ _ => (de_var (pv 6))) (by decide))) (do_of (de_lst (da_cons (do_of (de_ix ixd_get (do_var (pv 1)) (do_of de_int) (fun _ _ => rfl))) (da_cons (do_of (de_un od_neg (do_of de_int))) da_nil))))))
    (dss_cons (ds_set (i := 5) sc_Lbad.nd rfl (by first | exact Or.inl rfl | exact Or.inr rfl) (de_bin od_add (do_of (de_lc (own := [("_law_place", 6)]) rfl sc_Lbad.nd (di_rng1 (by rfl) z_range (do_of (de_ix ixd_get (do_var (pv 1)) (do_of de_int) (fun _ _ => rfl)))) (blkOk_by (own := [("_law_place", 6)]) (by first | rfl | decide +kernel)) (fun _ _ _ _ _ => (dg_name sc_Lbad.nd rfl (by first | exact Or.inl rfl | exact Or.inr rfl))) (fun _ _ _ _ _ => (dts_one (db_cmp (od_eq hr.units) (do_of (de_ix ixd_get (do_var (pv 2)) (do_var (pv 6)) (fun _ _ => rfl))) (do_of (de_tup da_nil)) (nomark _)))) (fun _ _ _ _ _ => (de_var (pv 6))) (by decide))) (do_of (de_lst (da_cons (do_of de_int) da_nil)))))
    (dss_cons (ds_set (i := 6) sc_Lbad.nd rfl (by first | exact Or.inl rfl | exact Or.inr rfl) (de_ix ixd_get (do_var (pv 4)) (do_of (de_call tk G_Ldraw hr (by rfl) g_Ldraw k_Ldraw B_Ldraw rfl (da_cons (do_var (pv 0)) (da_cons (do_of (de_cb cd_len (by rfl) z_len (by decide +kernel) (da_cons (do_var (pv 4)) da_nil))) da_nil)))) (fun _ _ => rfl)))
    (dss_cons (ds_set (i := 7) sc_Lbad.nd rfl (by first | exact Or.inl rfl | exact Or.inr rfl) (de_lst (da_cons (do_of (de_bin od_sub (do_of (de_un od_neg (do_of de_int))) (do_of (de_call tk G_Ldraw hr (by rfl) g_Ldraw k_Ldraw B_Ldraw rfl (da_cons (do_var (pv 0)) (da_cons (do_of de_int) da_nil)))))) (da_cons (do_of (de_var (pv 3))) (da_cons (do_of (de_bin od_add (do_var (pv 3)) (do_of (de_call tk G_Ldraw hr (by rfl) g_Ldraw k_Ldraw B_Ldraw rfl (da_cons (do_var (pv 0)) (da_cons (do_of (de_bin od_pow (do_of de_int) (do_of de_int))) da_nil)))))) (da_cons (do_of de_bl) (da_cons (do_of de_bl) (da_cons (do_of de_non) (da_cons (do_of de_str) (da_cons (do_of de_str) (da_cons (do_of de_str) da_nil)))))))))))
    (dss_cons (ds_set (i := 7) sc_Lbad.nd rfl (by first | exact Or.inl rfl | exact Or.inr rfl) (de_bin od_add (do_var (pv 7)) (do_of (de_lst (da_cons (do_of de_e0) (da_cons (do_of (de_lst da_nil)) (da_cons (do_of (de_tup da_nil)) (da_cons (do_of (de_tup (da_cons (do_of de_str) (da_cons (do_of de_bl) da_nil)))) (da_cons (do_of (de_tup (da_cons (do_of de_str) (da_cons (do_of de_bl) da_nil)))) da_nil)))))))))
    (dss_cons (ds_set (i := 7) sc_Lbad.nd rfl (by first | exact Or.inl rfl | exact Or.inr rfl) (de_bin od_add (do_var (pv 7)) (do_of (de_lst (da_cons (do_of (de_tup (da_cons (do_of de_str) da_nil))) (da_cons (do_of (de_tup (da_cons (do_of de_str) (da_cons (do_of (de_var (pv 6))) da_nil)))) (da_cons (do_of (de_lst (da_cons (do_of de_str) (da_cons (do_of (de_ix ixd_get (do_var (pv 5)) (do_of de_int) (fun _ _ => rfl))) da_nil)))) (da_cons (do_of (de_tup (da_cons (do_of de_str) (da_cons (do_of (de_ix ixd_get (do_var (pv 5)) (do_of de_int) (fun _ _ => rfl))) da_nil)))) (da_cons (do_of (de_tup (da_cons (do_of de_str) (da_cons (do_of (de_ix ixd_get (do_var (pv 5)) (do_of de_int) (fun _ _ => rfl))) (da_cons (do_of de_int) da_nil))))) da_nil)))))))))
    (dss_cons (ds_set (i := 7) sc_Lbad.nd rfl (by first | exact Or.inl rfl | exact Or.inr rfl) (de_bin od_add (do_var (pv 7)) (do_of (de_lst (da_cons (do_of (de_tup (da_cons (do_of de_str) (da_cons (do_of de_non) da_nil)))) (da_cons (do_of (de_tup (da_cons (do_of de_str) (da_cons (do_of de_str) da_nil)))) (da_cons (do_of (de_tup (da_cons (do_of de_int) da_nil))) (da_cons (do_of (de_lst (da_cons (do_of de_int) da_nil))) (da_cons (do_of (de_tup (da_cons (do_of de_int) (da_cons (do_of de_str) da_nil)))) (da_cons (do_of (de_tup (da_cons (do_of de_str) (da_cons (do_of (de_tup (da_cons (do_of (de_ix ixd_get (do_var (pv 5)) (do_of de_int) (fun _ _ => rfl))) da_nil))) da_nil)))) (da_cons (do_of (de_tup (da_cons (do_of de_str) (da_cons (do_of (de_ix ixd_get (do_var (pv 1)) (do_of de_int) (fun _ _ => rfl))) da_nil)))) da_nil)))))))))))
    (dss_cons (ds_set (i := 7) sc_Lbad.nd rfl (by first | exact Or.inl rfl | exact Or.inr rfl) (de_bin od_add (do_var (pv 7)) (do_of (de_lst (da_cons (do_of (de_tup (da_cons (do_of de_str) (da_cons (do_of (de_lst (da_cons (do_of (de_ix ixd_get (do_var (pv 5)) (do_of de_int) (fun _ _ => rfl))) da_nil))) da_nil)))) (da_cons (do_of (de_tup (da_cons (do_of de_str) (da_cons (do_of de_e0) da_nil)))) (da_cons (do_of (de_tup (da_cons (do_of (de_lst da_nil)) (da_cons (do_of de_int) da_nil)))) da_nil)))))))
    (dss_one (ds_ret (de_ix ixd_get (do_var (pv 7)) (do_of (de_call tk G_Ldraw hr (by rfl) g_Ldraw k_Ldraw B_Ldraw rfl (da_cons (do_var (pv 0)) (da_cons (do_of (de_cb cd_len (by rfl) z_len (by decide +kernel) (da_cons (do_var (pv 7)) da_nil))) da_nil)))) (fun _ _ => rfl)))))))))))))
theorem sc_law : FnScope ["_law_script", "_law_pen_here", "_law_web_here", "_law_order_here", "_law_k", "_law_good", "_law_due", "_law_way", "_law_bad_here", "_law_asked", "_law_kept", "_law_j"] ["_law_script"] (defScope s_law) := ⟨rfl, rfl, rfl, by decide +kernel, rfl, by decide +kernel, by decide +kernel⟩
set_option maxHeartbeats 4000000 in
theorem ok_law {k : Nat} {A0 : Around} (hA : Room (k + 1) A0) (hAG : A0.guards = some []) {f : Addr} {fd : FuncData} (F : Fun K "law" "law" s_law f fd) {f_Lpen : Addr} {fd_Lpen : FuncData} (G_Lpen : FnOk P w K mg base (L2N.CX P w) k f_Lpen fd_Lpen ["_law_script"] (spD K mg sem_Lpen_3d2f 1)) (g_Lpen : mg "_law_pen" = some (.ref f_Lpen)) (k_Lpen : PySem.W.keepIn K (.ref f_Lpen) = true) (B_Lpen : Binds K fd_Lpen ["_law_script"] []) {f_Lweb : Addr} {fd_Lweb : FuncData} (G_Lweb : FnOk P w K mg base (L2N.CX P w) k f_Lweb fd_Lweb ["_law_pen_here", "_law_places", "_law_ties"] (spD K mg sem_Lweb_0350 3)) (g_Lweb : mg "_law_web" = some (.ref f_Lweb)) (k_Lweb : PySem.W.keepIn K (.ref f_Lweb) = true) (B_Lweb : Binds K fd_Lweb ["_law_pen_here", "_law_places", "_law_ties"] []) {f_Lorder : Addr} {fd_Lorder : FuncData} (G_Lorder : FnOk P w K mg base (L2N.CX P w) k f_Lorder fd_Lorder ["_law_pen_here", "_law_web_here"] (spD K mg sem_Lorder_8e8e 2)) (g_Lorder : mg "_law_order" = some (.ref f_Lorder)) (k_Lorder : PySem.W.keepIn K (.ref f_Lorder) = true) (B_Lorder : Binds K fd_Lorder ["_law_pen_here", "_law_web_here"] []) {f_Ldraw : Addr} {fd_Ldraw : FuncData} (G_Ldraw : FnOk P w K mg base (L2N.CX P w) k f_Ldraw fd_Ldraw ["_law_pen_here", "_law_many"] (spD K mg sem_Ldraw_de5b 2)) (g_Ldraw : mg "_law_draw" = some (.ref f_Ldraw)) (k_Ldraw : PySem.W.keepIn K (.ref f_Ldraw) = true) (B_Ldraw : Binds K fd_Ldraw ["_law_pen_here", "_law_many"] []) {f_Lcorner : Addr} {fd_Lcorner : FuncData} (G_Lcorner : FnOk P w K mg base (L2N.CX P w) k f_Lcorner fd_Lcorner ["_law_pen_here", "_law_web_here", "_law_order_here"] (spD K mg sem_Lcorner_5df4 3)) (g_Lcorner : mg "_law_corner" = some (.ref f_Lcorner)) (k_Lcorner : PySem.W.keepIn K (.ref f_Lcorner) = true) (B_Lcorner : Binds K fd_Lcorner ["_law_pen_here", "_law_web_here", "_law_order_here"] []) {f_Lrefusal : Addr} {fd_Lrefusal : FuncData} (G_Lrefusal : FnOk P w K mg base (L2N.CX P w) k f_Lrefusal fd_Lrefusal ["_law_call", "_law_things"] (spD K mg sem_Lrefusal_9f4eR 2)) (g_Lrefusal : mg "_law_refusal" = some (.ref f_Lrefusal)) (k_Lrefusal : PySem.W.keepIn K (.ref f_Lrefusal) = true) (B_Lrefusal : Binds K fd_Lrefusal ["_law_call", "_law_things"] []) {f_Lrefused : Addr} {fd_Lrefused : FuncData} (G_Lrefused : FnOk P w K mg base (L2N.CX P w) k f_Lrefused fd_Lrefused ["_law_asked"] (spD K mg sem_Lrefused_b97aR 1)) (g_Lrefused : mg "_law_refused" = some (.ref f_Lrefused)) (k_Lrefused : PySem.W.keepIn K (.ref f_Lrefused) = true) (B_Lrefused : Binds K fd_Lrefused ["_law_asked"] []) {f_Lbad : Addr} {fd_Lbad : FuncData} (G_Lbad : FnOk P w K mg base (L2N.CX P w) k f_Lbad fd_Lbad ["_law_pen_here", "_law_web_here", "_law_order_here"] (spD K mg sem_Lbad_34c0 3)) (g_Lbad : mg "_law_bad" = some (.ref f_Lbad)) (k_Lbad : PySem.W.keepIn K (.ref f_Lbad) = true) (B_Lbad : Binds K fd_Lbad ["_law_pen_here", "_law_web_here", "_law_order_here"] []) (a_Lrefused : PySem.W.nsIn K mainGlobals "_law_refused" = some (some (.ref f_Lrefused))) (z_range : mg "range" = none) (z_len : mg "len" = none) (z_int : mg "int" = none) (z_repr : mg "repr" = none) :
    FnAt P w K mg base A0 f fd ["_law_script"] (spD K mg (defSem 1 12 b_law_87ceR) 1) :=
  def_at hA hAG (N := ["_law_script", "_law_pen_here", "_law_web_here", "_law_order_here", "_law_k", "_law_good", "_law_due", "_law_way", "_law_bad_here", "_law_asked", "_law_kept", "_law_j"]) F sc_law (by decide) fun cdv A outer s H E hr hG tk =>
    (dss_cons (ds_set (i := 1) sc_law.nd rfl (by first | exact Or.inl rfl | exact Or.inr rfl) (de_call tk G_Lpen hr (by rfl) g_Lpen k_Lpen B_Lpen rfl (da_cons (do_var (pv 0)) da_nil)))
    (dss_cons (ds_set (i := 2) sc_law.nd rfl (by first | exact Or.inl rfl | exact Or.inr rfl) (de_call tk G_Lweb hr (by rfl) g_Lweb k_Lweb B_Lweb rfl (da_cons (do_var (pv 1)) (da_cons (do_of de_int) (da_cons (do_of de_int) da_nil)))))
    (dss_cons (ds_set (i := 3) sc_law.nd rfl (by first | exact Or.inl rfl | exact Or.inr rfl) (de_call tk G_Lorder hr (by rfl) g_Lorder k_Lorder B_Lorder rfl (da_cons (do_var (pv 1)) (da_cons (do_var (pv 2)) da_nil))))
    (dss_cons (ds_for (passes_of rfl) rfl (di_rng1 (by rfl) z_range (do_of (de_bin od_add (do_of de_int) (do_of (de_call tk G_Ldraw hr (by rfl) g_Ldraw k_Ldraw B_Ldraw rfl (da_cons (do_var (pv 1)) (da_cons (do_of de_int) da_nil))))))) (dg_name sc_law.nd rfl (by first | exact Or.inl rfl | exact Or.inr rfl)) (dss_cons (ds_set (i := 5) sc_law.nd rfl (by first | exact Or.inl rfl | exact Or.inr rfl) (de_lst (da_cons (do_of (de_call tk G_Lcorner hr (by rfl) g_Lcorner k_Lcorner B_Lcorner rfl (da_cons (do_var (pv 1)) (da_cons (do_var (pv 2)) (da_cons (do_var (pv 3)) da_nil))))) (da_cons (do_of (de_call tk G_Lcorner hr (by rfl) g_Lcorner k_Lcorner B_Lcorner rfl (da_cons (do_var (pv 1)) (da_cons (do_var (pv 2)) (da_cons (do_var (pv 3)) da_nil))))) da_nil))))
    (dss_cons (ds_set (i := 6) sc_law.nd rfl (by first | exact Or.inl rfl | exact Or.inr rfl) (de_ix ixd_get (do_of (de_lst (da_cons (do_of de_non) (da_cons (do_of (de_lst (da_cons (do_of de_int) da_nil))) da_nil)))) (do_of (de_ct cd_int (by rfl) z_int (by decide +kernel) (da_cons (do_of (de_cmp (od_eq hr.units) (do_of (de_cb cd_len (by rfl) z_len (by decide +kernel) (da_cons (do_of (de_ix ixd_get (do_var (pv 2)) (do_of de_int) (fun _ _ => rfl))) da_nil))) (do_of de_int) (nomark _))) da_nil))) (fun _ _ => rfl)))
    (dss_cons (ds_if (db_cmp (od_ne hr.units) (do_of (de_call tk G_Lrefusal hr (by rfl) g_Lrefusal k_Lrefusal B_Lrefusal rfl (da_cons (do_of (de_fn (by rfl) g_Lrefused a_Lrefused)) (da_cons (do_of (de_tup (da_cons (do_of (de_var (pv 2))) (da_cons (do_of (de_var (pv 3))) (da_cons (do_of (de_ix ixd_get (do_var (pv 5)) (do_of de_int) (fun _ _ => rfl))) (da_cons (do_of (de_ix ixd_get (do_var (pv 5)) (do_of de_int) (fun _ _ => rfl))) da_nil)))))) da_nil)))) (do_var (pv 6)) (nomark _)) (dss_one (ds_ret de_bl)) dss_nil)
    (dss_cons (ds_set (i := 7) sc_law.nd rfl (by first | exact Or.inl rfl | exact Or.inr rfl) (de_bin od_add (do_of de_int) (do_of (de_call tk G_Ldraw hr (by rfl) g_Ldraw k_Ldraw B_Ldraw rfl (da_cons (do_var (pv 1)) (da_cons (do_of de_int) da_nil))))))
    (dss_cons (ds_set (i := 8) sc_law.nd rfl (by first | exact Or.inl rfl | exact Or.inr rfl) (de_lst (da_cons (do_of (de_call tk G_Lbad hr (by rfl) g_Lbad k_Lbad B_Lbad rfl (da_cons (do_var (pv 1)) (da_cons (do_var (pv 2)) (da_cons (do_var (pv 3)) da_nil))))) (da_cons (do_of (de_call tk G_Lbad hr (by rfl) g_Lbad k_Lbad B_Lbad rfl (da_cons (do_var (pv 1)) (da_cons (do_var (pv 2)) (da_cons (do_var (pv 3)) da_nil))))) da_nil))))
    (dss_cons (ds_setLc (i := 9) (own := [("_law_j", 11)]) rfl sc_law.nd rfl rfl (sw_true rfl rfl rfl (by decide +kernel)) (di_rng1 (by rfl) z_range (do_of de_int)) (blkOk_by (own := [("_law_j", 11)]) (by first | rfl | decide +kernel)) (fun _ _ _ _ _ => (dg_name sc_law.nd rfl (by first | exact Or.inl rfl | exact Or.inr rfl))) (fun _ _ _ _ _ => dts_nil) (fun _ _ _ _ _ => (de_ix ixd_get (do_of (de_lst (da_cons (do_of (de_ix ixd_get (do_var (pv 5)) (do_var (pv 11)) (fun _ _ => rfl))) (da_cons (do_of (de_ix ixd_get (do_var (pv 8)) (do_var (pv 11)) (fun _ _ => rfl))) da_nil)))) (do_of (de_bin od_mod (do_of (de_bin od_div (do_var (pv 7)) (do_of (de_bin od_add (do_of de_int) (do_var (pv 11)))))) (do_of de_int))) (fun _ _ => rfl))) (by decide))
    (dss_cons (ds_set (i := 10) sc_law.nd rfl (by first | exact Or.inl rfl | exact Or.inr rfl) (de_cb (cd_reprT hG hr.units) (by rfl) z_repr (by decide +kernel) (da_cons (do_var (pv 9)) da_nil)))
    (dss_cons (ds_if (db_w (dw_or (db_cmp (od_ne hr.units) (do_of (de_call tk G_Lrefusal hr (by rfl) g_Lrefusal k_Lrefusal B_Lrefusal rfl (da_cons (do_of (de_fn (by rfl) g_Lrefused a_Lrefused)) (da_cons (do_of (de_tup (da_cons (do_of (de_var (pv 2))) (da_cons (do_of (de_var (pv 3))) (da_cons (do_of (de_ix ixd_get (do_var (pv 9)) (do_of de_int) (fun _ _ => rfl))) (da_cons (do_of (de_ix ixd_get (do_var (pv 9)) (do_of de_int) (fun _ _ => rfl))) da_nil)))))) da_nil)))) (do_of (de_lst (da_cons (do_of de_int) da_nil))) (nomark _)) (dw_or1 (db_cmp od_neS (do_of (de_cb (cd_reprT hG hr.units) (by rfl) z_repr (by decide +kernel) (da_cons (do_var (pv 9)) da_nil))) (do_var (pv 10)) (nomark _))))) (dss_one (ds_ret de_bl)) dss_nil)
    (dss_one (ds_if (db_cmp (od_ne hr.units) (do_of (de_call tk G_Lrefusal hr (by rfl) g_Lrefusal k_Lrefusal B_Lrefusal rfl (da_cons (do_of (de_fn (by rfl) g_Lrefused a_Lrefused)) (da_cons (do_of (de_tup (da_cons (do_of (de_var (pv 2))) (da_cons (do_of (de_var (pv 3))) (da_cons (do_of (de_ix ixd_get (do_var (pv 5)) (do_of de_int) (fun _ _ => rfl))) (da_cons (do_of (de_ix ixd_get (do_var (pv 5)) (do_of de_int) (fun _ _ => rfl))) da_nil)))))) da_nil)))) (do_var (pv 6)) (nomark _)) (dss_one (ds_ret de_bl)) dss_nil)))))))))))
    (dss_one (ds_ret de_bl))))))
set_option maxHeartbeats 4000000 in
theorem all_mk {h : Heap} {fa : Addr} (X : K.In h) (G : h.Ns mainGlobals mg) (hfa : mg "law" = some (.ref fa))
    {f_is_whole : Addr} {od_is_whole an_is_whole : Option Addr} {sl_is_whole : Array (Option Value)} {oc_is_whole kV_is_whole dc_is_whole pm_is_whole cd_is_whole ct_is_whole : Value} {f_place_of : Addr} {od_place_of an_place_of : Option Addr} {sl_place_of : Array (Option Value)} {oc_place_of kV_place_of dc_place_of pm_place_of cd_place_of ct_place_of : Value} {f_begun : Addr} {od_begun an_begun : Option Addr} {sl_begun : Array (Option Value)} {oc_begun kV_begun dc_begun pm_begun cd_begun ct_begun : Value} {f_is_corner : Addr} {od_is_corner an_is_corner : Option Addr} {sl_is_corner : Array (Option Value)} {oc_is_corner kV_is_corner dc_is_corner pm_is_corner cd_is_corner ct_is_corner : Value} {f_corner_place : Addr} {od_corner_place an_corner_place : Option Addr} {sl_corner_place : Array (Option Value)} {oc_corner_place kV_corner_place dc_corner_place pm_corner_place cd_corner_place ct_corner_place : Value} {f_put_behind : Addr} {od_put_behind an_put_behind : Option Addr} {sl_put_behind : Array (Option Value)} {oc_put_behind kV_put_behind dc_put_behind pm_put_behind cd_put_behind ct_put_behind : Value} {f_put_in : Addr} {od_put_in an_put_in : Option Addr} {sl_put_in : Array (Option Value)} {oc_put_in kV_put_in dc_put_in pm_put_in cd_put_in ct_put_in : Value} {f_Lpen : Addr} {od_Lpen an_Lpen : Option Addr} {sl_Lpen : Array (Option Value)} {oc_Lpen kV_Lpen dc_Lpen pm_Lpen cd_Lpen ct_Lpen : Value} {f_Ldraw : Addr} {od_Ldraw an_Ldraw : Option Addr} {sl_Ldraw : Array (Option Value)} {oc_Ldraw kV_Ldraw dc_Ldraw pm_Ldraw cd_Ldraw ct_Ldraw : Value} {f_Lweb : Addr} {od_Lweb an_Lweb : Option Addr} {sl_Lweb : Array (Option Value)} {oc_Lweb kV_Lweb dc_Lweb pm_Lweb cd_Lweb ct_Lweb : Value} {f_Lorder : Addr} {od_Lorder an_Lorder : Option Addr} {sl_Lorder : Array (Option Value)} {oc_Lorder kV_Lorder dc_Lorder pm_Lorder cd_Lorder ct_Lorder : Value} {f_Lcorner : Addr} {od_Lcorner an_Lcorner : Option Addr} {sl_Lcorner : Array (Option Value)} {oc_Lcorner kV_Lcorner dc_Lcorner pm_Lcorner cd_Lcorner ct_Lcorner : Value} {f_Lrefused : Addr} {od_Lrefused an_Lrefused : Option Addr} {sl_Lrefused : Array (Option Value)} {oc_Lrefused kV_Lrefused dc_Lrefused pm_Lrefused cd_Lrefused ct_Lrefused : Value} {f_Lrefusal : Addr} {od_Lrefusal an_Lrefusal : Option Addr} {sl_Lrefusal : Array (Option Value)} {oc_Lrefusal kV_Lrefusal dc_Lrefusal pm_Lrefusal cd_Lrefusal ct_Lrefusal : Value} {f_Lbad : Addr} {od_Lbad an_Lbad : Option Addr} {sl_Lbad : Array (Option Value)} {oc_Lbad kV_Lbad dc_Lbad pm_Lbad cd_Lbad ct_Lbad : Value} {f_law : Addr} {od_law an_law : Option Addr} {sl_law : Array (Option Value)} {oc_law kV_law dc_law pm_law cd_law ct_law : Value} {t_MOST_TIES : Tok} {C_NoEnd : Addr} {C_TooGreat : Addr} {C_NoWeb : Addr} {C_NoOrder : Addr} {C_NoNumber : Addr} {C_NoTie : Addr} {C_NoPlace : Addr} {C_NoTable : Addr} {C_NoRing : Addr} {C_NoPaper : Addr} {C_Apart : Addr} {C_TooMany : Addr} {C_NoText : Addr} {C_NoName : Addr} {C_NoRow : Addr} {C_FloorError : Addr}
    (a_is_whole : PySem.W.nsIn K mainGlobals "is_whole" = some (some (.ref f_is_whole))) (l_is_whole : K.lookup f_is_whole = some ⟨oc_is_whole, od_is_whole, .func (PySem.W.fnOf "is_whole" "is_whole" (defArgs s_is_whole) (defBody s_is_whole) (defScope s_is_whole) .none kV_is_whole dc_is_whole pm_is_whole an_is_whole cd_is_whole ct_is_whole), sl_is_whole⟩) (c_is_whole : PySem.W.codeIn K cd_is_whole "is_whole" = true) (k_is_whole : PySem.W.keepIn K (.ref f_is_whole) = true)
    (a_place_of : PySem.W.nsIn K mainGlobals "place_of" = some (some (.ref f_place_of))) (l_place_of : K.lookup f_place_of = some ⟨oc_place_of, od_place_of, .func (PySem.W.fnOf "place_of" "place_of" (defArgs s_place_of) (defBody s_place_of) (defScope s_place_of) .none kV_place_of dc_place_of pm_place_of an_place_of cd_place_of ct_place_of), sl_place_of⟩) (c_place_of : PySem.W.codeIn K cd_place_of "place_of" = true) (k_place_of : PySem.W.keepIn K (.ref f_place_of) = true)
    (a_begun : PySem.W.nsIn K mainGlobals "begun" = some (some (.ref f_begun))) (l_begun : K.lookup f_begun = some ⟨oc_begun, od_begun, .func (PySem.W.fnOf "begun" "begun" (defArgs s_begun) (defBody s_begun) (defScope s_begun) .none kV_begun dc_begun pm_begun an_begun cd_begun ct_begun), sl_begun⟩) (c_begun : PySem.W.codeIn K cd_begun "begun" = true) (k_begun : PySem.W.keepIn K (.ref f_begun) = true)
    (a_is_corner : PySem.W.nsIn K mainGlobals "is_corner" = some (some (.ref f_is_corner))) (l_is_corner : K.lookup f_is_corner = some ⟨oc_is_corner, od_is_corner, .func (PySem.W.fnOf "is_corner" "is_corner" (defArgs s_is_corner) (defBody s_is_corner) (defScope s_is_corner) .none kV_is_corner dc_is_corner pm_is_corner an_is_corner cd_is_corner ct_is_corner), sl_is_corner⟩) (c_is_corner : PySem.W.codeIn K cd_is_corner "is_corner" = true) (k_is_corner : PySem.W.keepIn K (.ref f_is_corner) = true)
    (a_corner_place : PySem.W.nsIn K mainGlobals "corner_place" = some (some (.ref f_corner_place))) (l_corner_place : K.lookup f_corner_place = some ⟨oc_corner_place, od_corner_place, .func (PySem.W.fnOf "corner_place" "corner_place" (defArgs s_corner_place) (defBody s_corner_place) (defScope s_corner_place) .none kV_corner_place dc_corner_place pm_corner_place an_corner_place cd_corner_place ct_corner_place), sl_corner_place⟩) (c_corner_place : PySem.W.codeIn K cd_corner_place "corner_place" = true) (k_corner_place : PySem.W.keepIn K (.ref f_corner_place) = true)
    (a_put_behind : PySem.W.nsIn K mainGlobals "put_behind" = some (some (.ref f_put_behind))) (l_put_behind : K.lookup f_put_behind = some ⟨oc_put_behind, od_put_behind, .func (PySem.W.fnOf "put_behind" "put_behind" (defArgs s_put_behind) (defBody s_put_behind) (defScope s_put_behind) .none kV_put_behind dc_put_behind pm_put_behind an_put_behind cd_put_behind ct_put_behind), sl_put_behind⟩) (c_put_behind : PySem.W.codeIn K cd_put_behind "put_behind" = true) (k_put_behind : PySem.W.keepIn K (.ref f_put_behind) = true)
    (a_put_in : PySem.W.nsIn K mainGlobals "put_in" = some (some (.ref f_put_in))) (l_put_in : K.lookup f_put_in = some ⟨oc_put_in, od_put_in, .func (PySem.W.fnOf "put_in" "put_in" (defArgs s_put_in) (defBody s_put_in) (defScope s_put_in) .none kV_put_in dc_put_in pm_put_in an_put_in cd_put_in ct_put_in), sl_put_in⟩) (c_put_in : PySem.W.codeIn K cd_put_in "put_in" = true) (k_put_in : PySem.W.keepIn K (.ref f_put_in) = true)
    (a_Lpen : PySem.W.nsIn K mainGlobals "_law_pen" = some (some (.ref f_Lpen))) (l_Lpen : K.lookup f_Lpen = some ⟨oc_Lpen, od_Lpen, .func (PySem.W.fnOf "_law_pen" "_law_pen" (defArgs s_Lpen) (defBody s_Lpen) (defScope s_Lpen) .none kV_Lpen dc_Lpen pm_Lpen an_Lpen cd_Lpen ct_Lpen), sl_Lpen⟩) (c_Lpen : PySem.W.codeIn K cd_Lpen "_law_pen" = true) (k_Lpen : PySem.W.keepIn K (.ref f_Lpen) = true)
    (a_Ldraw : PySem.W.nsIn K mainGlobals "_law_draw" = some (some (.ref f_Ldraw))) (l_Ldraw : K.lookup f_Ldraw = some ⟨oc_Ldraw, od_Ldraw, .func (PySem.W.fnOf "_law_draw" "_law_draw" (defArgs s_Ldraw) (defBody s_Ldraw) (defScope s_Ldraw) .none kV_Ldraw dc_Ldraw pm_Ldraw an_Ldraw cd_Ldraw ct_Ldraw), sl_Ldraw⟩) (c_Ldraw : PySem.W.codeIn K cd_Ldraw "_law_draw" = true) (k_Ldraw : PySem.W.keepIn K (.ref f_Ldraw) = true)
    (a_Lweb : PySem.W.nsIn K mainGlobals "_law_web" = some (some (.ref f_Lweb))) (l_Lweb : K.lookup f_Lweb = some ⟨oc_Lweb, od_Lweb, .func (PySem.W.fnOf "_law_web" "_law_web" (defArgs s_Lweb) (defBody s_Lweb) (defScope s_Lweb) .none kV_Lweb dc_Lweb pm_Lweb an_Lweb cd_Lweb ct_Lweb), sl_Lweb⟩) (c_Lweb : PySem.W.codeIn K cd_Lweb "_law_web" = true) (k_Lweb : PySem.W.keepIn K (.ref f_Lweb) = true)
    (a_Lorder : PySem.W.nsIn K mainGlobals "_law_order" = some (some (.ref f_Lorder))) (l_Lorder : K.lookup f_Lorder = some ⟨oc_Lorder, od_Lorder, .func (PySem.W.fnOf "_law_order" "_law_order" (defArgs s_Lorder) (defBody s_Lorder) (defScope s_Lorder) .none kV_Lorder dc_Lorder pm_Lorder an_Lorder cd_Lorder ct_Lorder), sl_Lorder⟩) (c_Lorder : PySem.W.codeIn K cd_Lorder "_law_order" = true) (k_Lorder : PySem.W.keepIn K (.ref f_Lorder) = true)
    (a_Lcorner : PySem.W.nsIn K mainGlobals "_law_corner" = some (some (.ref f_Lcorner))) (l_Lcorner : K.lookup f_Lcorner = some ⟨oc_Lcorner, od_Lcorner, .func (PySem.W.fnOf "_law_corner" "_law_corner" (defArgs s_Lcorner) (defBody s_Lcorner) (defScope s_Lcorner) .none kV_Lcorner dc_Lcorner pm_Lcorner an_Lcorner cd_Lcorner ct_Lcorner), sl_Lcorner⟩) (c_Lcorner : PySem.W.codeIn K cd_Lcorner "_law_corner" = true) (k_Lcorner : PySem.W.keepIn K (.ref f_Lcorner) = true)
    (a_Lrefused : PySem.W.nsIn K mainGlobals "_law_refused" = some (some (.ref f_Lrefused))) (l_Lrefused : K.lookup f_Lrefused = some ⟨oc_Lrefused, od_Lrefused, .func (PySem.W.fnOf "_law_refused" "_law_refused" (defArgs s_Lrefused) (defBody s_Lrefused) (defScope s_Lrefused) .none kV_Lrefused dc_Lrefused pm_Lrefused an_Lrefused cd_Lrefused ct_Lrefused), sl_Lrefused⟩) (c_Lrefused : PySem.W.codeIn K cd_Lrefused "_law_refused" = true) (k_Lrefused : PySem.W.keepIn K (.ref f_Lrefused) = true)
    (a_Lrefusal : PySem.W.nsIn K mainGlobals "_law_refusal" = some (some (.ref f_Lrefusal))) (l_Lrefusal : K.lookup f_Lrefusal = some ⟨oc_Lrefusal, od_Lrefusal, .func (PySem.W.fnOf "_law_refusal" "_law_refusal" (defArgs s_Lrefusal) (defBody s_Lrefusal) (defScope s_Lrefusal) .none kV_Lrefusal dc_Lrefusal pm_Lrefusal an_Lrefusal cd_Lrefusal ct_Lrefusal), sl_Lrefusal⟩) (c_Lrefusal : PySem.W.codeIn K cd_Lrefusal "_law_refusal" = true) (k_Lrefusal : PySem.W.keepIn K (.ref f_Lrefusal) = true)
    (a_Lbad : PySem.W.nsIn K mainGlobals "_law_bad" = some (some (.ref f_Lbad))) (l_Lbad : K.lookup f_Lbad = some ⟨oc_Lbad, od_Lbad, .func (PySem.W.fnOf "_law_bad" "_law_bad" (defArgs s_Lbad) (defBody s_Lbad) (defScope s_Lbad) .none kV_Lbad dc_Lbad pm_Lbad an_Lbad cd_Lbad ct_Lbad), sl_Lbad⟩) (c_Lbad : PySem.W.codeIn K cd_Lbad "_law_bad" = true) (k_Lbad : PySem.W.keepIn K (.ref f_Lbad) = true)
    (a_law : PySem.W.nsIn K mainGlobals "law" = some (some (.ref f_law))) (l_law : K.lookup f_law = some ⟨oc_law, od_law, .func (PySem.W.fnOf "law" "law" (defArgs s_law) (defBody s_law) (defScope s_law) .none kV_law dc_law pm_law an_law cd_law ct_law), sl_law⟩) (c_law : PySem.W.codeIn K cd_law "law" = true) (k_law : PySem.W.keepIn K (.ref f_law) = true) (z_isinstance : PySem.W.nsIn K mainGlobals "isinstance" = some none) (z_int : PySem.W.nsIn K mainGlobals "int" = some none) (z_bool : PySem.W.nsIn K mainGlobals "bool" = some none) (z_len : PySem.W.nsIn K mainGlobals "len" = some none) (z_list : PySem.W.nsIn K mainGlobals "list" = some none) (z_min : PySem.W.nsIn K mainGlobals "min" = some none) (z_tuple : PySem.W.nsIn K mainGlobals "tuple" = some none) (z_MOST_TIES : PySem.W.nsIn K mainGlobals "MOST_TIES" = some (some (.int 24 t_MOST_TIES))) (z_abs : PySem.W.nsIn K mainGlobals "abs" = some none) (z_range : PySem.W.nsIn K mainGlobals "range" = some none) (z_max : PySem.W.nsIn K mainGlobals "max" = some none) (z_ValueError : PySem.W.nsIn K mainGlobals "ValueError" = some none) (z_repr : PySem.W.nsIn K mainGlobals "repr" = some none) (xa_NoEnd : PySem.W.nsIn K mainGlobals "NoEnd" = some (some (.ref C_NoEnd))) (xa_TooGreat : PySem.W.nsIn K mainGlobals "TooGreat" = some (some (.ref C_TooGreat))) (xa_NoWeb : PySem.W.nsIn K mainGlobals "NoWeb" = some (some (.ref C_NoWeb))) (xa_NoOrder : PySem.W.nsIn K mainGlobals "NoOrder" = some (some (.ref C_NoOrder))) (xa_NoNumber : PySem.W.nsIn K mainGlobals "NoNumber" = some (some (.ref C_NoNumber))) (xa_NoTie : PySem.W.nsIn K mainGlobals "NoTie" = some (some (.ref C_NoTie))) (xa_NoPlace : PySem.W.nsIn K mainGlobals "NoPlace" = some (some (.ref C_NoPlace))) (xa_NoTable : PySem.W.nsIn K mainGlobals "NoTable" = some (some (.ref C_NoTable))) (xa_NoRing : PySem.W.nsIn K mainGlobals "NoRing" = some (some (.ref C_NoRing))) (xa_NoPaper : PySem.W.nsIn K mainGlobals "NoPaper" = some (some (.ref C_NoPaper))) (xa_Apart : PySem.W.nsIn K mainGlobals "Apart" = some (some (.ref C_Apart))) (xa_TooMany : PySem.W.nsIn K mainGlobals "TooMany" = some (some (.ref C_TooMany))) (xa_NoText : PySem.W.nsIn K mainGlobals "NoText" = some (some (.ref C_NoText))) (xa_NoName : PySem.W.nsIn K mainGlobals "NoName" = some (some (.ref C_NoName))) (xa_NoRow : PySem.W.nsIn K mainGlobals "NoRow" = some (some (.ref C_NoRow))) (xa_FloorError : PySem.W.nsIn K mainGlobals "FloorError" = some (some (.ref C_FloorError))) (xq_NoEnd : PySem.W.excIn K C_NoEnd [.type "ValueError", .type "Exception", .type "BaseException", .type "object"] "ValueError.__new__" = true) (xk_NoEnd : PySem.W.keepIn K (.ref C_NoEnd) = true) (xb_NoEnd : PySem.W.subIn K (.ref C_NoEnd) (.type "BaseException") = some true) (xt_NoEnd : PySem.W.typeIn K (.ref C_NoEnd) = some (.type "type")) (xq_TooGreat : PySem.W.excIn K C_TooGreat [.type "ValueError", .type "Exception", .type "BaseException", .type "object"] "ValueError.__new__" = true) (xk_TooGreat : PySem.W.keepIn K (.ref C_TooGreat) = true) (xb_TooGreat : PySem.W.subIn K (.ref C_TooGreat) (.type "BaseException") = some true) (xt_TooGreat : PySem.W.typeIn K (.ref C_TooGreat) = some (.type "type")) (xchg_NoEnd : PySem.W.findIn K (.ref C_NoEnd) "__getattribute__" = some (some (.builtin "BaseException.__getattribute__"))) (xchk_NoEnd : PySem.W.findIn K (.ref C_NoEnd) "__getattr__" = some none) (xchs_NoEnd : PySem.W.subIn K (.ref C_NoEnd) (.type "BaseException") = some true) (xchd_NoEnd : PySem.W.hasDictIn K C_NoEnd = true) (xcha_NoEnd : PySem.W.findIn K (.ref C_NoEnd) "__class__" = some (some (.builtin "object.__class__"))) (xchm_NoEnd : PySem.W.mroIn K C_NoEnd (.type "object") = some true) (xcn_NoEnd : PySem.W.specialIn K (.builtin "object.__class__") "__get__" = some (some (.builtin "getset_descriptor.__get__"))) (xct_NoEnd : PySem.W.takesIn K (.builtin "object.__class__") = some true) (xs_NoEnd_NoEnd : PySem.W.subIn K (.ref C_NoEnd) (.ref C_NoEnd) = some true) (xd_NoWeb : PySem.W.hasDictIn K C_NoWeb = true) (xt_NoWeb : PySem.W.typeIn K (.ref C_NoWeb) = some (.type "type")) (xs_NoEnd_NoWeb : PySem.W.subIn K (.ref C_NoEnd) (.ref C_NoWeb) = some false) (xd_NoOrder : PySem.W.hasDictIn K C_NoOrder = true) (xt_NoOrder : PySem.W.typeIn K (.ref C_NoOrder) = some (.type "type")) (xs_NoEnd_NoOrder : PySem.W.subIn K (.ref C_NoEnd) (.ref C_NoOrder) = some false) (xd_NoNumber : PySem.W.hasDictIn K C_NoNumber = true) (xt_NoNumber : PySem.W.typeIn K (.ref C_NoNumber) = some (.type "type")) (xs_NoEnd_NoNumber : PySem.W.subIn K (.ref C_NoEnd) (.ref C_NoNumber) = some false) (xd_NoEnd : PySem.W.hasDictIn K C_NoEnd = true) (xd_NoTie : PySem.W.hasDictIn K C_NoTie = true) (xt_NoTie : PySem.W.typeIn K (.ref C_NoTie) = some (.type "type")) (xs_NoEnd_NoTie : PySem.W.subIn K (.ref C_NoEnd) (.ref C_NoTie) = some false) (xd_NoPlace : PySem.W.hasDictIn K C_NoPlace = true) (xt_NoPlace : PySem.W.typeIn K (.ref C_NoPlace) = some (.type "type")) (xs_NoEnd_NoPlace : PySem.W.subIn K (.ref C_NoEnd) (.ref C_NoPlace) = some false) (xd_NoTable : PySem.W.hasDictIn K C_NoTable = true) (xt_NoTable : PySem.W.typeIn K (.ref C_NoTable) = some (.type "type")) (xs_NoEnd_NoTable : PySem.W.subIn K (.ref C_NoEnd) (.ref C_NoTable) = some false) (xd_NoRing : PySem.W.hasDictIn K C_NoRing = true) (xt_NoRing : PySem.W.typeIn K (.ref C_NoRing) = some (.type "type")) (xs_NoEnd_NoRing : PySem.W.subIn K (.ref C_NoEnd) (.ref C_NoRing) = some false) (xd_NoPaper : PySem.W.hasDictIn K C_NoPaper = true) (xt_NoPaper : PySem.W.typeIn K (.ref C_NoPaper) = some (.type "type")) (xs_NoEnd_NoPaper : PySem.W.subIn K (.ref C_NoEnd) (.ref C_NoPaper) = some false) (xd_Apart : PySem.W.hasDictIn K C_Apart = true) (xt_Apart : PySem.W.typeIn K (.ref C_Apart) = some (.type "type")) (xs_NoEnd_Apart : PySem.W.subIn K (.ref C_NoEnd) (.ref C_Apart) = some false) (xd_TooMany : PySem.W.hasDictIn K C_TooMany = true) (xt_TooMany : PySem.W.typeIn K (.ref C_TooMany) = some (.type "type")) (xs_NoEnd_TooMany : PySem.W.subIn K (.ref C_NoEnd) (.ref C_TooMany) = some false) (xd_TooGreat : PySem.W.hasDictIn K C_TooGreat = true) (xs_NoEnd_TooGreat : PySem.W.subIn K (.ref C_NoEnd) (.ref C_TooGreat) = some false) (xd_NoText : PySem.W.hasDictIn K C_NoText = true) (xt_NoText : PySem.W.typeIn K (.ref C_NoText) = some (.type "type")) (xs_NoEnd_NoText : PySem.W.subIn K (.ref C_NoEnd) (.ref C_NoText) = some false) (xd_NoName : PySem.W.hasDictIn K C_NoName = true) (xt_NoName : PySem.W.typeIn K (.ref C_NoName) = some (.type "type")) (xs_NoEnd_NoName : PySem.W.subIn K (.ref C_NoEnd) (.ref C_NoName) = some false) (xd_NoRow : PySem.W.hasDictIn K C_NoRow = true) (xt_NoRow : PySem.W.typeIn K (.ref C_NoRow) = some (.type "type")) (xs_NoEnd_NoRow : PySem.W.subIn K (.ref C_NoEnd) (.ref C_NoRow) = some false) (xs_NoEnd_ValueError : PySem.W.subIn K (.ref C_NoEnd) (.type "ValueError") = some true) (xb_FloorError : PySem.W.subIn K (.ref C_FloorError) (.type "BaseException") = some true) (xd_FloorError : PySem.W.hasDictIn K C_FloorError = true) (xt_FloorError : PySem.W.typeIn K (.ref C_FloorError) = some (.type "type")) (xs_NoEnd_FloorError : PySem.W.subIn K (.ref C_NoEnd) (.ref C_FloorError) = some true) (xchg_TooGreat : PySem.W.findIn K (.ref C_TooGreat) "__getattribute__" = some (some (.builtin "BaseException.__getattribute__"))) (xchk_TooGreat : PySem.W.findIn K (.ref C_TooGreat) "__getattr__" = some none) (xchs_TooGreat : PySem.W.subIn K (.ref C_TooGreat) (.type "BaseException") = some true) (xchd_TooGreat : PySem.W.hasDictIn K C_TooGreat = true) (xcha_TooGreat : PySem.W.findIn K (.ref C_TooGreat) "__class__" = some (some (.builtin "object.__class__"))) (xchm_TooGreat : PySem.W.mroIn K C_TooGreat (.type "object") = some true) (xcn_TooGreat : PySem.W.specialIn K (.builtin "object.__class__") "__get__" = some (some (.builtin "getset_descriptor.__get__"))) (xct_TooGreat : PySem.W.takesIn K (.builtin "object.__class__") = some true) (xs_TooGreat_TooGreat : PySem.W.subIn K (.ref C_TooGreat) (.ref C_TooGreat) = some true) (xs_TooGreat_NoWeb : PySem.W.subIn K (.ref C_TooGreat) (.ref C_NoWeb) = some false) (xs_TooGreat_NoOrder : PySem.W.subIn K (.ref C_TooGreat) (.ref C_NoOrder) = some false) (xs_TooGreat_NoNumber : PySem.W.subIn K (.ref C_TooGreat) (.ref C_NoNumber) = some false) (xs_TooGreat_NoEnd : PySem.W.subIn K (.ref C_TooGreat) (.ref C_NoEnd) = some false) (xs_TooGreat_NoTie : PySem.W.subIn K (.ref C_TooGreat) (.ref C_NoTie) = some false) (xs_TooGreat_NoPlace : PySem.W.subIn K (.ref C_TooGreat) (.ref C_NoPlace) = some false) (xs_TooGreat_NoTable : PySem.W.subIn K (.ref C_TooGreat) (.ref C_NoTable) = some false) (xs_TooGreat_NoRing : PySem.W.subIn K (.ref C_TooGreat) (.ref C_NoRing) = some false) (xs_TooGreat_NoPaper : PySem.W.subIn K (.ref C_TooGreat) (.ref C_NoPaper) = some false) (xs_TooGreat_Apart : PySem.W.subIn K (.ref C_TooGreat) (.ref C_Apart) = some false) (xs_TooGreat_TooMany : PySem.W.subIn K (.ref C_TooGreat) (.ref C_TooMany) = some false) (xs_TooGreat_NoText : PySem.W.subIn K (.ref C_TooGreat) (.ref C_NoText) = some false) (xs_TooGreat_NoName : PySem.W.subIn K (.ref C_TooGreat) (.ref C_NoName) = some false) (xs_TooGreat_NoRow : PySem.W.subIn K (.ref C_TooGreat) (.ref C_NoRow) = some false) (xs_TooGreat_ValueError : PySem.W.subIn K (.ref C_TooGreat) (.type "ValueError") = some true) (xs_TooGreat_FloorError : PySem.W.subIn K (.ref C_TooGreat) (.ref C_FloorError) = some true) :
    ∃ fd : FuncData, (∀ (s : Shared) (v : Value), BindsTo s fd ⟨[v], []⟩ [("_law_script", v)]) ∧ ∀ base : Heap, K.In base → base.Ns mainGlobals mg → FnAt P w K mg base callerA fa fd ["_law_script"] (spD K mg sem_law_87ceR 1) := by
  have e : fa = f_law := by
    have e := hfa.symm.trans (PySem.W.mg_of X G a_law)
    cases e; rfl
  rw [e]
  have F_is_whole := fun_mk (st := s_is_whole) l_is_whole c_is_whole k_is_whole
  have B_is_whole := F_is_whole.binds (ps := ["thing"]) fun _ _ _ _ _ _ us hl => match us, hl with | [_], _ => rfl
  have g_is_whole := PySem.W.mg_of X G a_is_whole
  have F_place_of := fun_mk (st := s_place_of) l_place_of c_place_of k_place_of
  have B_place_of := F_place_of.binds (ps := ["web", "end"]) fun _ _ _ _ _ _ us hl => match us, hl with | [_, _], _ => rfl
  have g_place_of := PySem.W.mg_of X G a_place_of
  have F_begun := fun_mk (st := s_begun) l_begun c_begun k_begun
  have B_begun := F_begun.binds (ps := ["row"]) fun _ _ _ _ _ _ us hl => match us, hl with | [_], _ => rfl
  have g_begun := PySem.W.mg_of X G a_begun
  have F_is_corner := fun_mk (st := s_is_corner) l_is_corner c_is_corner k_is_corner
  have B_is_corner := F_is_corner.binds (ps := ["web", "order", "corner"]) fun _ _ _ _ _ _ us hl => match us, hl with | [_, _, _], _ => rfl
  have g_is_corner := PySem.W.mg_of X G a_is_corner
  have F_corner_place := fun_mk (st := s_corner_place) l_corner_place c_corner_place k_corner_place
  have B_corner_place := F_corner_place.binds (ps := ["web", "corner"]) fun _ _ _ _ _ _ us hl => match us, hl with | [_, _], _ => rfl
  have g_corner_place := PySem.W.mg_of X G a_corner_place
  have F_put_behind := fun_mk (st := s_put_behind) l_put_behind c_put_behind k_put_behind
  have B_put_behind := F_put_behind.binds (ps := ["row", "corner", "end"]) fun _ _ _ _ _ _ us hl => match us, hl with | [_, _, _], _ => rfl
  have g_put_behind := PySem.W.mg_of X G a_put_behind
  have F_put_in := fun_mk (st := s_put_in) l_put_in c_put_in k_put_in
  have B_put_in := F_put_in.binds (ps := ["web", "order", "one", "other"]) fun _ _ _ _ _ _ us hl => match us, hl with | [_, _, _, _], _ => rfl
  have g_put_in := PySem.W.mg_of X G a_put_in
  have F_Lpen := fun_mk (st := s_Lpen) l_Lpen c_Lpen k_Lpen
  have B_Lpen := F_Lpen.binds (ps := ["_law_script"]) fun _ _ _ _ _ _ us hl => match us, hl with | [_], _ => rfl
  have g_Lpen := PySem.W.mg_of X G a_Lpen
  have F_Ldraw := fun_mk (st := s_Ldraw) l_Ldraw c_Ldraw k_Ldraw
  have B_Ldraw := F_Ldraw.binds (ps := ["_law_pen_here", "_law_many"]) fun _ _ _ _ _ _ us hl => match us, hl with | [_, _], _ => rfl
  have g_Ldraw := PySem.W.mg_of X G a_Ldraw
  have F_Lweb := fun_mk (st := s_Lweb) l_Lweb c_Lweb k_Lweb
  have B_Lweb := F_Lweb.binds (ps := ["_law_pen_here", "_law_places", "_law_ties"]) fun _ _ _ _ _ _ us hl => match us, hl with | [_, _, _], _ => rfl
  have g_Lweb := PySem.W.mg_of X G a_Lweb
  have F_Lorder := fun_mk (st := s_Lorder) l_Lorder c_Lorder k_Lorder
  have B_Lorder := F_Lorder.binds (ps := ["_law_pen_here", "_law_web_here"]) fun _ _ _ _ _ _ us hl => match us, hl with | [_, _], _ => rfl
  have g_Lorder := PySem.W.mg_of X G a_Lorder
  have F_Lcorner := fun_mk (st := s_Lcorner) l_Lcorner c_Lcorner k_Lcorner
  have B_Lcorner := F_Lcorner.binds (ps := ["_law_pen_here", "_law_web_here", "_law_order_here"]) fun _ _ _ _ _ _ us hl => match us, hl with | [_, _, _], _ => rfl
  have g_Lcorner := PySem.W.mg_of X G a_Lcorner
  have F_Lrefused := fun_mk (st := s_Lrefused) l_Lrefused c_Lrefused k_Lrefused
  have B_Lrefused := F_Lrefused.binds (ps := ["_law_asked"]) fun _ _ _ _ _ _ us hl => match us, hl with | [_], _ => rfl
  have g_Lrefused := PySem.W.mg_of X G a_Lrefused
  have F_Lrefusal := fun_mk (st := s_Lrefusal) l_Lrefusal c_Lrefusal k_Lrefusal
  have B_Lrefusal := F_Lrefusal.binds (ps := ["_law_call", "_law_things"]) fun _ _ _ _ _ _ us hl => match us, hl with | [_, _], _ => rfl
  have g_Lrefusal := PySem.W.mg_of X G a_Lrefusal
  have F_Lbad := fun_mk (st := s_Lbad) l_Lbad c_Lbad k_Lbad
  have B_Lbad := F_Lbad.binds (ps := ["_law_pen_here", "_law_web_here", "_law_order_here"]) fun _ _ _ _ _ _ us hl => match us, hl with | [_, _, _], _ => rfl
  have g_Lbad := PySem.W.mg_of X G a_Lbad
  have F_law := fun_mk (st := s_law) l_law c_law k_law
  have B_law := F_law.binds (ps := ["_law_script"]) fun _ _ _ _ _ _ us hl => match us, hl with | [_], _ => rfl
  have g_law := PySem.W.mg_of X G a_law
  have y_isinstance := PySem.W.mg_none_of X G z_isinstance
  have y_int := PySem.W.mg_none_of X G z_int
  have y_bool := PySem.W.mg_none_of X G z_bool
  have y_len := PySem.W.mg_none_of X G z_len
  have y_list := PySem.W.mg_none_of X G z_list
  have y_min := PySem.W.mg_none_of X G z_min
  have y_tuple := PySem.W.mg_none_of X G z_tuple
  have y_MOST_TIES : ∃ t, mg "MOST_TIES" = some (.int 24 t) := ⟨_, PySem.W.mg_of X G z_MOST_TIES⟩
  have y_abs := PySem.W.mg_none_of X G z_abs
  have y_range := PySem.W.mg_none_of X G z_range
  have y_max := PySem.W.mg_none_of X G z_max
  have y_ValueError := PySem.W.mg_none_of X G z_ValueError
  have y_repr := PySem.W.mg_none_of X G z_repr
  have gx_NoEnd := PySem.W.mg_of X G xa_NoEnd
  have gx_TooGreat := PySem.W.mg_of X G xa_TooGreat
  have gx_NoWeb := PySem.W.mg_of X G xa_NoWeb
  have gx_NoOrder := PySem.W.mg_of X G xa_NoOrder
  have gx_NoNumber := PySem.W.mg_of X G xa_NoNumber
  have gx_NoTie := PySem.W.mg_of X G xa_NoTie
  have gx_NoPlace := PySem.W.mg_of X G xa_NoPlace
  have gx_NoTable := PySem.W.mg_of X G xa_NoTable
  have gx_NoRing := PySem.W.mg_of X G xa_NoRing
  have gx_NoPaper := PySem.W.mg_of X G xa_NoPaper
  have gx_Apart := PySem.W.mg_of X G xa_Apart
  have gx_TooMany := PySem.W.mg_of X G xa_TooMany
  have gx_NoText := PySem.W.mg_of X G xa_NoText
  have gx_NoName := PySem.W.mg_of X G xa_NoName
  have gx_NoRow := PySem.W.mg_of X G xa_NoRow
  have gx_FloorError := PySem.W.mg_of X G xa_FloorError
  have x_NoEnd : ExK K mg "NoEnd" C_NoEnd := ⟨gx_NoEnd, xq_NoEnd, xk_NoEnd, xb_NoEnd, xt_NoEnd⟩
  have x_TooGreat : ExK K mg "TooGreat" C_TooGreat := ⟨gx_TooGreat, xq_TooGreat, xk_TooGreat, xb_TooGreat, xt_TooGreat⟩
  have xc_NoEnd : ExcC K C_NoEnd := ⟨xchg_NoEnd, xchk_NoEnd, xchs_NoEnd, xchd_NoEnd, xcha_NoEnd, xcn_NoEnd, xct_NoEnd, xchm_NoEnd⟩
  have kk_NoEnd_NoWeb : PySem.W.kitOne K (.ref C_NoEnd) (.ref C_NoWeb) = some false := (kit_ref xs_NoEnd_NoEnd xd_NoWeb xt_NoWeb xs_NoEnd_NoWeb)
  have kk_NoEnd_NoOrder : PySem.W.kitOne K (.ref C_NoEnd) (.ref C_NoOrder) = some false := (kit_ref xs_NoEnd_NoEnd xd_NoOrder xt_NoOrder xs_NoEnd_NoOrder)
  have kk_NoEnd_NoNumber : PySem.W.kitOne K (.ref C_NoEnd) (.ref C_NoNumber) = some false := (kit_ref xs_NoEnd_NoEnd xd_NoNumber xt_NoNumber xs_NoEnd_NoNumber)
  have kk_NoEnd_NoEnd : PySem.W.kitOne K (.ref C_NoEnd) (.ref C_NoEnd) = some true := (kit_ref xs_NoEnd_NoEnd xd_NoEnd xt_NoEnd xs_NoEnd_NoEnd)
  have kk_NoEnd_NoTie : PySem.W.kitOne K (.ref C_NoEnd) (.ref C_NoTie) = some false := (kit_ref xs_NoEnd_NoEnd xd_NoTie xt_NoTie xs_NoEnd_NoTie)
  have kk_NoEnd_NoPlace : PySem.W.kitOne K (.ref C_NoEnd) (.ref C_NoPlace) = some false := (kit_ref xs_NoEnd_NoEnd xd_NoPlace xt_NoPlace xs_NoEnd_NoPlace)
  have kk_NoEnd_NoTable : PySem.W.kitOne K (.ref C_NoEnd) (.ref C_NoTable) = some false := (kit_ref xs_NoEnd_NoEnd xd_NoTable xt_NoTable xs_NoEnd_NoTable)
  have kk_NoEnd_NoRing : PySem.W.kitOne K (.ref C_NoEnd) (.ref C_NoRing) = some false := (kit_ref xs_NoEnd_NoEnd xd_NoRing xt_NoRing xs_NoEnd_NoRing)
  have kk_NoEnd_NoPaper : PySem.W.kitOne K (.ref C_NoEnd) (.ref C_NoPaper) = some false := (kit_ref xs_NoEnd_NoEnd xd_NoPaper xt_NoPaper xs_NoEnd_NoPaper)
  have kk_NoEnd_Apart : PySem.W.kitOne K (.ref C_NoEnd) (.ref C_Apart) = some false := (kit_ref xs_NoEnd_NoEnd xd_Apart xt_Apart xs_NoEnd_Apart)
  have kk_NoEnd_TooMany : PySem.W.kitOne K (.ref C_NoEnd) (.ref C_TooMany) = some false := (kit_ref xs_NoEnd_NoEnd xd_TooMany xt_TooMany xs_NoEnd_TooMany)
  have kk_NoEnd_TooGreat : PySem.W.kitOne K (.ref C_NoEnd) (.ref C_TooGreat) = some false := (kit_ref xs_NoEnd_NoEnd xd_TooGreat xt_TooGreat xs_NoEnd_TooGreat)
  have kk_NoEnd_NoText : PySem.W.kitOne K (.ref C_NoEnd) (.ref C_NoText) = some false := (kit_ref xs_NoEnd_NoEnd xd_NoText xt_NoText xs_NoEnd_NoText)
  have kk_NoEnd_NoName : PySem.W.kitOne K (.ref C_NoEnd) (.ref C_NoName) = some false := (kit_ref xs_NoEnd_NoEnd xd_NoName xt_NoName xs_NoEnd_NoName)
  have kk_NoEnd_NoRow : PySem.W.kitOne K (.ref C_NoEnd) (.ref C_NoRow) = some false := (kit_ref xs_NoEnd_NoEnd xd_NoRow xt_NoRow xs_NoEnd_NoRow)
  have kk_NoEnd_ValueError : PySem.W.kitOne K (.ref C_NoEnd) (.type "ValueError") = some true := (kit_bty (by decide +kernel) xs_NoEnd_ValueError)
  have xe_NoEnd_FloorError : PySem.W.exmOne K (.ref C_NoEnd) (.ref C_FloorError) = some true := PySem.W.exm_ref xb_FloorError xd_FloorError xt_FloorError xs_NoEnd_FloorError
  have xc_TooGreat : ExcC K C_TooGreat := ⟨xchg_TooGreat, xchk_TooGreat, xchs_TooGreat, xchd_TooGreat, xcha_TooGreat, xcn_TooGreat, xct_TooGreat, xchm_TooGreat⟩
  have kk_TooGreat_NoWeb : PySem.W.kitOne K (.ref C_TooGreat) (.ref C_NoWeb) = some false := (kit_ref xs_TooGreat_TooGreat xd_NoWeb xt_NoWeb xs_TooGreat_NoWeb)
  have kk_TooGreat_NoOrder : PySem.W.kitOne K (.ref C_TooGreat) (.ref C_NoOrder) = some false := (kit_ref xs_TooGreat_TooGreat xd_NoOrder xt_NoOrder xs_TooGreat_NoOrder)
  have kk_TooGreat_NoNumber : PySem.W.kitOne K (.ref C_TooGreat) (.ref C_NoNumber) = some false := (kit_ref xs_TooGreat_TooGreat xd_NoNumber xt_NoNumber xs_TooGreat_NoNumber)
  have kk_TooGreat_NoEnd : PySem.W.kitOne K (.ref C_TooGreat) (.ref C_NoEnd) = some false := (kit_ref xs_TooGreat_TooGreat xd_NoEnd xt_NoEnd xs_TooGreat_NoEnd)
  have kk_TooGreat_NoTie : PySem.W.kitOne K (.ref C_TooGreat) (.ref C_NoTie) = some false := (kit_ref xs_TooGreat_TooGreat xd_NoTie xt_NoTie xs_TooGreat_NoTie)
  have kk_TooGreat_NoPlace : PySem.W.kitOne K (.ref C_TooGreat) (.ref C_NoPlace) = some false := (kit_ref xs_TooGreat_TooGreat xd_NoPlace xt_NoPlace xs_TooGreat_NoPlace)
  have kk_TooGreat_NoTable : PySem.W.kitOne K (.ref C_TooGreat) (.ref C_NoTable) = some false := (kit_ref xs_TooGreat_TooGreat xd_NoTable xt_NoTable xs_TooGreat_NoTable)
  have kk_TooGreat_NoRing : PySem.W.kitOne K (.ref C_TooGreat) (.ref C_NoRing) = some false := (kit_ref xs_TooGreat_TooGreat xd_NoRing xt_NoRing xs_TooGreat_NoRing)
  have kk_TooGreat_NoPaper : PySem.W.kitOne K (.ref C_TooGreat) (.ref C_NoPaper) = some false := (kit_ref xs_TooGreat_TooGreat xd_NoPaper xt_NoPaper xs_TooGreat_NoPaper)
  have kk_TooGreat_Apart : PySem.W.kitOne K (.ref C_TooGreat) (.ref C_Apart) = some false := (kit_ref xs_TooGreat_TooGreat xd_Apart xt_Apart xs_TooGreat_Apart)
  have kk_TooGreat_TooMany : PySem.W.kitOne K (.ref C_TooGreat) (.ref C_TooMany) = some false := (kit_ref xs_TooGreat_TooGreat xd_TooMany xt_TooMany xs_TooGreat_TooMany)
  have kk_TooGreat_TooGreat : PySem.W.kitOne K (.ref C_TooGreat) (.ref C_TooGreat) = some true := (kit_ref xs_TooGreat_TooGreat xd_TooGreat xt_TooGreat xs_TooGreat_TooGreat)
  have kk_TooGreat_NoText : PySem.W.kitOne K (.ref C_TooGreat) (.ref C_NoText) = some false := (kit_ref xs_TooGreat_TooGreat xd_NoText xt_NoText xs_TooGreat_NoText)
  have kk_TooGreat_NoName : PySem.W.kitOne K (.ref C_TooGreat) (.ref C_NoName) = some false := (kit_ref xs_TooGreat_TooGreat xd_NoName xt_NoName xs_TooGreat_NoName)
  have kk_TooGreat_NoRow : PySem.W.kitOne K (.ref C_TooGreat) (.ref C_NoRow) = some false := (kit_ref xs_TooGreat_TooGreat xd_NoRow xt_NoRow xs_TooGreat_NoRow)
  have kk_TooGreat_ValueError : PySem.W.kitOne K (.ref C_TooGreat) (.type "ValueError") = some true := (kit_bty (by decide +kernel) xs_TooGreat_ValueError)
  have xe_TooGreat_FloorError : PySem.W.exmOne K (.ref C_TooGreat) (.ref C_FloorError) = some true := PySem.W.exm_ref xb_FloorError xd_FloorError xt_FloorError xs_TooGreat_FloorError
  refine ⟨PySem.W.fnOf "law" "law" (defArgs s_law) (defBody s_law) (defScope s_law) .none kV_law dc_law pm_law an_law cd_law ct_law, fun s v => .of_eq rfl, fun base _ _ => ?_⟩
  have G_is_whole : FnOk P w K mg base (L2N.CX P w) 1 f_is_whole _ ["thing"] (spD K mg sem_is_whole_637d 1) := ok_is_whole (k := 0) F_is_whole y_isinstance y_int y_bool
  have G_place_of : FnOk P w K mg base (L2N.CX P w) 1 f_place_of _ ["web", "end"] (spD K mg sem_place_of_8c4c 2) := ok_place_of (k := 0) F_place_of 
  have G_begun : FnOk P w K mg base (L2N.CX P w) 1 f_begun _ ["row"] (spD K mg sem_begun_fe2e 1) := ok_begun (k := 0) F_begun y_len y_list y_min y_tuple
  have G_is_corner : FnOk P w K mg base (L2N.CX P w) 2 f_is_corner _ ["web", "order", "corner"] (spD K mg sem_is_corner_0de1 3) := ok_is_corner (k := 1) F_is_corner (G_is_whole.mono (by decide : 1 ≤ 1)) g_is_whole k_is_whole B_is_whole y_len y_isinstance y_tuple
  have G_corner_place : FnOk P w K mg base (L2N.CX P w) 2 f_corner_place _ ["web", "corner"] (spD K mg sem_corner_place_c3d1 2) := ok_corner_place (k := 1) F_corner_place (G_place_of.mono (by decide : 1 ≤ 1)) g_place_of k_place_of B_place_of y_isinstance y_tuple
  have G_put_behind : FnOk P w K mg base (L2N.CX P w) 1 f_put_behind _ ["row", "corner", "end"] (spD K mg sem_put_behind_7da8 3) := ok_put_behind (k := 0) F_put_behind y_len
  have G_put_in : FnOk P w K mg base (L2N.CX P w) 3 f_put_in _ ["web", "order", "one", "other"] (spD K mg sem_put_in_c1efR 4) := ok_put_in (k := 2) F_put_in (G_is_corner.mono (by decide : 2 ≤ 2)) g_is_corner k_is_corner B_is_corner (G_corner_place.mono (by decide : 2 ≤ 2)) g_corner_place k_corner_place B_corner_place (G_put_behind.mono (by decide : 1 ≤ 2)) g_put_behind k_put_behind B_put_behind (G_begun.mono (by decide : 1 ≤ 2)) g_begun k_begun B_begun y_len y_MOST_TIES y_list y_tuple x_NoEnd x_TooGreat
  have G_Lpen : FnOk P w K mg base (L2N.CX P w) 1 f_Lpen _ ["_law_script"] (spD K mg sem_Lpen_3d2f 1) := ok_Lpen (k := 0) F_Lpen 
  have G_Ldraw : FnOk P w K mg base (L2N.CX P w) 1 f_Ldraw _ ["_law_pen_here", "_law_many"] (spD K mg sem_Ldraw_de5b 2) := ok_Ldraw (k := 0) F_Ldraw y_len y_abs
  have G_Lweb : FnOk P w K mg base (L2N.CX P w) 2 f_Lweb _ ["_law_pen_here", "_law_places", "_law_ties"] (spD K mg sem_Lweb_0350 3) := ok_Lweb (k := 1) F_Lweb (G_Ldraw.mono (by decide : 1 ≤ 1)) g_Ldraw k_Ldraw B_Ldraw y_range y_min y_tuple
  have G_Lorder : FnOk P w K mg base (L2N.CX P w) 2 f_Lorder _ ["_law_pen_here", "_law_web_here"] (spD K mg sem_Lorder_8e8e 2) := ok_Lorder (k := 1) F_Lorder (G_Ldraw.mono (by decide : 1 ≤ 1)) g_Ldraw k_Ldraw B_Ldraw y_range y_len y_max y_min y_tuple
  have G_Lcorner : FnOk P w K mg base (L2N.CX P w) 2 f_Lcorner _ ["_law_pen_here", "_law_web_here", "_law_order_here"] (spD K mg sem_Lcorner_5df4 3) := ok_Lcorner (k := 1) F_Lcorner (G_Ldraw.mono (by decide : 1 ≤ 1)) g_Ldraw k_Ldraw B_Ldraw y_range y_len
  have G_Lrefused : FnOk P w K mg base (L2N.CX P w) 4 f_Lrefused _ ["_law_asked"] (spD K mg sem_Lrefused_b97aR 1) := ok_Lrefused (k := 3) F_Lrefused (G_put_in.mono (by decide : 3 ≤ 3)) g_put_in k_put_in B_put_in
  have G_Lrefusal : FnOk P w K mg base (L2N.CX P w) 5 f_Lrefusal _ ["_law_call", "_law_things"] (spD K mg sem_Lrefusal_9f4eR 2) := ok_Lrefusal (k := 4) F_Lrefusal (G_Lrefused.mono (by decide : 4 ≤ 4)) g_Lrefused k_Lrefused B_Lrefused a_Lrefused y_isinstance y_ValueError y_range gx_NoWeb xc_NoEnd kk_NoEnd_NoWeb gx_NoOrder kk_NoEnd_NoOrder gx_NoNumber kk_NoEnd_NoNumber gx_NoEnd kk_NoEnd_NoEnd gx_NoTie kk_NoEnd_NoTie gx_NoPlace kk_NoEnd_NoPlace gx_NoTable kk_NoEnd_NoTable gx_NoRing kk_NoEnd_NoRing gx_NoPaper kk_NoEnd_NoPaper gx_Apart kk_NoEnd_Apart gx_TooMany kk_NoEnd_TooMany gx_TooGreat kk_NoEnd_TooGreat gx_NoText kk_NoEnd_NoText gx_NoName kk_NoEnd_NoName gx_NoRow kk_NoEnd_NoRow kk_NoEnd_ValueError x_NoEnd xe_NoEnd_FloorError xc_TooGreat kk_TooGreat_NoWeb kk_TooGreat_NoOrder kk_TooGreat_NoNumber kk_TooGreat_NoEnd kk_TooGreat_NoTie kk_TooGreat_NoPlace kk_TooGreat_NoTable kk_TooGreat_NoRing kk_TooGreat_NoPaper kk_TooGreat_Apart kk_TooGreat_TooMany kk_TooGreat_TooGreat kk_TooGreat_NoText kk_TooGreat_NoName kk_TooGreat_NoRow kk_TooGreat_ValueError x_TooGreat xe_TooGreat_FloorError gx_FloorError
  have G_Lbad : FnOk P w K mg base (L2N.CX P w) 2 f_Lbad _ ["_law_pen_here", "_law_web_here", "_law_order_here"] (spD K mg sem_Lbad_34c0 3) := ok_Lbad (k := 1) F_Lbad (G_Ldraw.mono (by decide : 1 ≤ 1)) g_Ldraw k_Ldraw B_Ldraw y_len y_range
  have G_law : FnAt P w K mg base callerA f_law _ ["_law_script"] (spD K mg sem_law_87ceR 1) := ok_law (k := 5) ⟨rfl, by decide, by decide⟩ rfl F_law (G_Lpen.mono (by decide : 1 ≤ 5)) g_Lpen k_Lpen B_Lpen (G_Lweb.mono (by decide : 2 ≤ 5)) g_Lweb k_Lweb B_Lweb (G_Lorder.mono (by decide : 2 ≤ 5)) g_Lorder k_Lorder B_Lorder (G_Ldraw.mono (by decide : 1 ≤ 5)) g_Ldraw k_Ldraw B_Ldraw (G_Lcorner.mono (by decide : 2 ≤ 5)) g_Lcorner k_Lcorner B_Lcorner (G_Lrefusal.mono (by decide : 5 ≤ 5)) g_Lrefusal k_Lrefusal B_Lrefusal (G_Lrefused.mono (by decide : 4 ≤ 5)) g_Lrefused k_Lrefused B_Lrefused (G_Lbad.mono (by decide : 2 ≤ 5)) g_Lbad k_Lbad B_Lbad a_Lrefused y_range y_len y_int y_repr
  exact G_law
end
end Lw
end

section
namespace Lw
open PySem DL
theorem law_true (ns : List Int) (h : ns.length ≤ 63) : ∃ ys, ys.length = 1 ∧ sem_law_87ceR [.fz (scrD ns)] = some (.ok (.val (.bool true)), ys) := by
  obtain ⟨o, ys, e, rfl, hl⟩ := law31_ok ns h
  exact ⟨ys, hl, e⟩
end Lw
end

section
open PySem PySem.W PyProof.Rows
set_option maxRecDepth 100000 in
set_option maxHeartbeats 0 in
theorem PySem.Challenge.cw_holefloor_k31_no_corners_holds : PySem.Challenge.rw_holefloor_k31_no_corners.Holds := by
  w_on; o_law; k_head; (case hw => w_witness2)
  k_fill
  refine DL.walk_dG (l := PySem.Challenge.rw_holefloor_k31_no_corners) (n := 63) (x := "_law_script") (sem := Lw.sem_law_87ceR) rfl (by decide) rfl (fun w h Y => PySem.W.kIn_of Y) Lw.law_true ?F
  case F =>
    intro w mg fa h KX G hmg
    refine' Lw.all_mk KX G hmg ?a_is_whole ?l_is_whole ?c_is_whole ?k_is_whole ?a_place_of ?l_place_of ?c_place_of ?k_place_of ?a_begun ?l_begun ?c_begun ?k_begun ?a_is_corner ?l_is_corner ?c_is_corner ?k_is_corner ?a_corner_place ?l_corner_place ?c_corner_place ?k_corner_place ?a_put_behind ?l_put_behind ?c_put_behind ?k_put_behind ?a_put_in ?l_put_in ?c_put_in ?k_put_in ?a_Lpen ?l_Lpen ?c_Lpen ?k_Lpen ?a_Ldraw ?l_Ldraw ?c_Ldraw ?k_Ldraw ?a_Lweb ?l_Lweb ?c_Lweb ?k_Lweb ?a_Lorder ?l_Lorder ?c_Lorder ?k_Lorder ?a_Lcorner ?l_Lcorner ?c_Lcorner ?k_Lcorner ?a_Lrefused ?l_Lrefused ?c_Lrefused ?k_Lrefused ?a_Lrefusal ?l_Lrefusal ?c_Lrefusal ?k_Lrefusal ?a_Lbad ?l_Lbad ?c_Lbad ?k_Lbad ?a_law ?l_law ?c_law ?k_law ?z_isinstance ?z_int ?z_bool ?z_len ?z_list ?z_min ?z_tuple ?z_MOST_TIES ?z_abs ?z_range ?z_max ?z_ValueError ?z_repr ?xa_NoEnd ?xa_TooGreat ?xa_NoWeb ?xa_NoOrder ?xa_NoNumber ?xa_NoTie ?xa_NoPlace ?xa_NoTable ?xa_NoRing ?xa_NoPaper ?xa_Apart ?xa_TooMany ?xa_NoText ?xa_NoName ?xa_NoRow ?xa_FloorError ?xq_NoEnd ?xk_NoEnd ?xb_NoEnd ?xt_NoEnd ?xq_TooGreat ?xk_TooGreat ?xb_TooGreat ?xt_TooGreat ?xchg_NoEnd ?xchk_NoEnd ?xchs_NoEnd ?xchd_NoEnd ?xcha_NoEnd ?xchm_NoEnd ?xcn_NoEnd ?xct_NoEnd ?xs_NoEnd_NoEnd ?xd_NoWeb ?xt_NoWeb ?xs_NoEnd_NoWeb ?xd_NoOrder ?xt_NoOrder ?xs_NoEnd_NoOrder ?xd_NoNumber ?xt_NoNumber ?xs_NoEnd_NoNumber ?xd_NoEnd ?xd_NoTie ?xt_NoTie ?xs_NoEnd_NoTie ?xd_NoPlace ?xt_NoPlace ?xs_NoEnd_NoPlace ?xd_NoTable ?xt_NoTable ?xs_NoEnd_NoTable ?xd_NoRing ?xt_NoRing ?xs_NoEnd_NoRing ?xd_NoPaper ?xt_NoPaper ?xs_NoEnd_NoPaper ?xd_Apart ?xt_Apart ?xs_NoEnd_Apart ?xd_TooMany ?xt_TooMany ?xs_NoEnd_TooMany ?xd_TooGreat ?xs_NoEnd_TooGreat ?xd_NoText ?xt_NoText ?xs_NoEnd_NoText ?xd_NoName ?xt_NoName ?xs_NoEnd_NoName ?xd_NoRow ?xt_NoRow ?xs_NoEnd_NoRow ?xs_NoEnd_ValueError ?xb_FloorError ?xd_FloorError ?xt_FloorError ?xs_NoEnd_FloorError ?xchg_TooGreat ?xchk_TooGreat ?xchs_TooGreat ?xchd_TooGreat ?xcha_TooGreat ?xchm_TooGreat ?xcn_TooGreat ?xct_TooGreat ?xs_TooGreat_TooGreat ?xs_TooGreat_NoWeb ?xs_TooGreat_NoOrder ?xs_TooGreat_NoNumber ?xs_TooGreat_NoEnd ?xs_TooGreat_NoTie ?xs_TooGreat_NoPlace ?xs_TooGreat_NoTable ?xs_TooGreat_NoRing ?xs_TooGreat_NoPaper ?xs_TooGreat_Apart ?xs_TooGreat_TooMany ?xs_TooGreat_NoText ?xs_TooGreat_NoName ?xs_TooGreat_NoRow ?xs_TooGreat_ValueError ?xs_TooGreat_FloorError
    (case a_is_whole => k_is); (case l_is_whole => k_is); (case c_is_whole => k_is); (case k_is_whole => k_is); (case a_place_of => k_is); (case l_place_of => k_is); (case c_place_of => k_is); (case k_place_of => k_is); (case a_begun => k_is); (case l_begun => k_is); (case c_begun => k_is); (case k_begun => k_is); (case a_is_corner => k_is); (case l_is_corner => k_is); (case c_is_corner => k_is); (case k_is_corner => k_is); (case a_corner_place => k_is); (case l_corner_place => k_is); (case c_corner_place => k_is); (case k_corner_place => k_is); (case a_put_behind => k_is); (case l_put_behind => k_is); (case c_put_behind => k_is); (case k_put_behind => k_is); (case a_put_in => k_is); (case l_put_in => k_is); (case c_put_in => k_is); (case k_put_in => k_is); (case a_Lpen => k_is); (case l_Lpen => k_is); (case c_Lpen => k_is); (case k_Lpen => k_is); (case a_Ldraw => k_is); (case l_Ldraw => k_is); (case c_Ldraw => k_is); (case k_Ldraw => k_is); (case a_Lweb => k_is); (case l_Lweb => k_is); (case c_Lweb => k_is); (case k_Lweb => k_is); (case a_Lorder => k_is); (case l_Lorder => k_is); (case c_Lorder => k_is); (case k_Lorder => k_is); (case a_Lcorner => k_is); (case l_Lcorner => k_is); (case c_Lcorner => k_is); (case k_Lcorner => k_is); (case a_Lrefused => k_is); (case l_Lrefused => k_is); (case c_Lrefused => k_is); (case k_Lrefused => k_is); (case a_Lrefusal => k_is); (case l_Lrefusal => k_is); (case c_Lrefusal => k_is); (case k_Lrefusal => k_is); (case a_Lbad => k_is); (case l_Lbad => k_is); (case c_Lbad => k_is); (case k_Lbad => k_is); (case a_law => k_is); (case l_law => k_is); (case c_law => k_is); (case k_law => k_is); (case z_isinstance => k_is); (case z_int => k_is); (case z_bool => k_is); (case z_len => k_is); (case z_list => k_is); (case z_min => k_is); (case z_tuple => k_is); (case z_MOST_TIES => k_is); (case z_abs => k_is); (case z_range => k_is); (case z_max => k_is); (case z_ValueError => k_is); (case z_repr => k_is); (case xa_NoEnd => k_is); (case xa_TooGreat => k_is); (case xa_NoWeb => k_is); (case xa_NoOrder => k_is); (case xa_NoNumber => k_is); (case xa_NoTie => k_is); (case xa_NoPlace => k_is); (case xa_NoTable => k_is); (case xa_NoRing => k_is); (case xa_NoPaper => k_is); (case xa_Apart => k_is); (case xa_TooMany => k_is); (case xa_NoText => k_is); (case xa_NoName => k_is); (case xa_NoRow => k_is); (case xa_FloorError => k_is); (case xq_NoEnd => k_exc); (case xk_NoEnd => k_is); (case xb_NoEnd => k_is); (case xt_NoEnd => k_is); (case xq_TooGreat => k_exc); (case xk_TooGreat => k_is); (case xb_TooGreat => k_is); (case xt_TooGreat => k_is); (case xchg_NoEnd => k_is); (case xchk_NoEnd => k_is); (case xchs_NoEnd => k_is); (case xchd_NoEnd => k_is); (case xcha_NoEnd => k_is); (case xchm_NoEnd => k_is); (case xcn_NoEnd => k_is); (case xct_NoEnd => k_is); (case xs_NoEnd_NoEnd => k_is); (case xd_NoWeb => k_is); (case xt_NoWeb => k_is); (case xs_NoEnd_NoWeb => k_is); (case xd_NoOrder => k_is); (case xt_NoOrder => k_is); (case xs_NoEnd_NoOrder => k_is); (case xd_NoNumber => k_is); (case xt_NoNumber => k_is); (case xs_NoEnd_NoNumber => k_is); (case xd_NoEnd => k_is); (case xd_NoTie => k_is); (case xt_NoTie => k_is); (case xs_NoEnd_NoTie => k_is); (case xd_NoPlace => k_is); (case xt_NoPlace => k_is); (case xs_NoEnd_NoPlace => k_is); (case xd_NoTable => k_is); (case xt_NoTable => k_is); (case xs_NoEnd_NoTable => k_is); (case xd_NoRing => k_is); (case xt_NoRing => k_is); (case xs_NoEnd_NoRing => k_is); (case xd_NoPaper => k_is); (case xt_NoPaper => k_is); (case xs_NoEnd_NoPaper => k_is); (case xd_Apart => k_is); (case xt_Apart => k_is); (case xs_NoEnd_Apart => k_is); (case xd_TooMany => k_is); (case xt_TooMany => k_is); (case xs_NoEnd_TooMany => k_is); (case xd_TooGreat => k_is); (case xs_NoEnd_TooGreat => k_is); (case xd_NoText => k_is); (case xt_NoText => k_is); (case xs_NoEnd_NoText => k_is); (case xd_NoName => k_is); (case xt_NoName => k_is); (case xs_NoEnd_NoName => k_is); (case xd_NoRow => k_is); (case xt_NoRow => k_is); (case xs_NoEnd_NoRow => k_is); (case xs_NoEnd_ValueError => k_is); (case xb_FloorError => k_is); (case xd_FloorError => k_is); (case xt_FloorError => k_is); (case xs_NoEnd_FloorError => k_is); (case xchg_TooGreat => k_is); (case xchk_TooGreat => k_is); (case xchs_TooGreat => k_is); (case xchd_TooGreat => k_is); (case xcha_TooGreat => k_is); (case xchm_TooGreat => k_is); (case xcn_TooGreat => k_is); (case xct_TooGreat => k_is); (case xs_TooGreat_TooGreat => k_is); (case xs_TooGreat_NoWeb => k_is); (case xs_TooGreat_NoOrder => k_is); (case xs_TooGreat_NoNumber => k_is); (case xs_TooGreat_NoEnd => k_is); (case xs_TooGreat_NoTie => k_is); (case xs_TooGreat_NoPlace => k_is); (case xs_TooGreat_NoTable => k_is); (case xs_TooGreat_NoRing => k_is); (case xs_TooGreat_NoPaper => k_is); (case xs_TooGreat_Apart => k_is); (case xs_TooGreat_TooMany => k_is); (case xs_TooGreat_NoText => k_is); (case xs_TooGreat_NoName => k_is); (case xs_TooGreat_NoRow => k_is); (case xs_TooGreat_ValueError => k_is); (case xs_TooGreat_FloorError => k_is)
end
