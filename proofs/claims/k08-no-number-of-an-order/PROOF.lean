import PyProof.Rows.All
import PySem.PyData
import PySem.Str
import HandS.ForMost
import HandS.Exc
import HandS.TryOnly
import HandS.ExcOwn
import HandS.WordsExc
import HandS.TupAny
import HandS.HotCalls
import HandS.Lambda
import PyProof.P3Statements
import PyProof.Lay0
import HandS.Wide
import HandS.IsInst
import HandS.Deep
import HandS.TupMul
import HandS.Zip
import HandS.Rev
import HandS.More
import HandS.Strs
import HandS.WordsDict
import HandS.Style
import KE.DataMinMax
import KE.SortData
import HandS.SortInts
import HandS.Conv
import KE.GoesMore
import HandS.SetFor
import HandS.SetKeys
import HandS.ExcIs
import HandS.RevRange
import HandS.WideBits
import PyProof.ReprLen
import PyProof.ReprRoads
import KE.KTupSum
import HandS.EndTab
import HandS.Text
import HandS.Dict
import HandS.DictSubView
import HandS.SortKw
import HandS.CallLocal
import HandS.EndOwn
import Wide.All
import OpenK.AllK
import Wide.FinOn
import PySem.Challenge.RW_holefloor_k08_no_number_of_an_order
set_option Elab.async false
set_option linter.all false
set_option maxRecDepth 100000
section
namespace DL
open PySem
abbrev D := PyData
abbrev Ky := Sum Int Str
/-- what an owned mutable object holds -/
inductive Ct where
  | lst (ds : List D)
  | dK (kvs : List (Ky × D))
  | dT (kvs : List (List Ky × D))
  /-- a list of lists, all of them owned -/
  | ll (rows : List (List D))
  /-- a dict of lists, all of them owned -/
  | dl (kvs : List (Ky × List D))
  /-- the table of a code object, at P; its codes bear the name q -/
  | tab (P : Nat) (q : Str)
/-- a slot: nothing known; shared data that stands still; an owned object. The Bool: a parameter lent by the caller -/
inductive Sl where
  | non
  | frz (b : Bool) (d : D)
  | own (b : Bool) (c : Ct)
  /-- the k-th list of the list of lists in slot j -/
  | al (j k : Nat)
abbrev Ro := List Sl
/-- an expression's result: data that stands still, or a new object of one's own -/
inductive RV where
  | val (d : D)
  | new (c : Ct)
structure Exn where
  cls : String
  row : Option Int
inductive EO (α : Type) where
  | ok (a : α)
  | exc (x : Exn)
def M (α : Type) := Ro → Option (EO α × Ro)
def M.bind {α β : Type} (m : M α) (f : α → M β) : M β := fun r => match m r with
  | none => none
  | some (.ok a, r') => f a r'
  | some (.exc x, r') => some (.exc x, r')
def M.ret {α : Type} (a : α) : M α := fun r => some (.ok a, r)
def M.of {α : Type} (o : Option α) : M α := fun r => o.map fun a => (.ok a, r)
/-- an operand: a slot looked at when the operation is done, or a value -/
inductive AV where
  | slot (i : Nat)
  | val (d : D)
/-- an operand looked at -/
inductive Rs where
  | fz (d : D)
  | ow (c : Ct)
def look (r : Ro) : AV → Option Rs
  | .val d => some (.fz d)
  | .slot i => match r[i]? with
    | some (.frz _ d) => some (.fz d)
    | some (.own _ c) => some (.ow c)
    | _ => none
/-- no slot looks into slot i -/
def noAl (r : Ro) (i : Nat) : Bool := r.all fun x => match x with
  | .al j _ => j != i
  | _ => true
/-- .. a list in a list of lists, too -/
def look2 (r : Ro) : AV → Option Rs
  | .val d => some (.fz d)
  | .slot i => match r[i]? with
    | some (.frz _ d) => some (.fz d)
    | some (.own _ c) => some (.ow c)
    | some (.al j k) => match r[j]? with
      | some (.own _ (.ll rows)) => rows[k]?.map fun ds => .ow (.lst ds)
      | _ => none
    | _ => none
def looks2 (r : Ro) : List AV → Option (List Rs)
  | [] => some []
  | a :: as => match look2 r a, looks2 r as with
    | some x, some xs => some (x :: xs)
    | _, _ => none
def looks (r : Ro) : List AV → Option (List Rs)
  | [] => some []
  | a :: as => match look r a, looks r as with
    | some x, some xs => some (x :: xs)
    | _, _ => none
def Ct.data : Ct → Option D
  | .lst ds => some (.list ds)
  | _ => none
def Rs.data : Rs → Option D
  | .fz d => some d
  | .ow c => c.data
/-- a new result stands still from now on -/
def RV.data : RV → Option D
  | .val d => some d
  | .new c => c.data
/-- the slot read as a value: what was owned stands still from now on -/
def mRd (i : Nat) : M RV := fun r => match r[i]? with
  | some (.frz _ d) => some (.ok (.val d), r)
  | some (.own b (.lst ds)) => some (.ok (.val (.list ds)), r.set i (.frz b (.list ds)))
  | some (.own b (.ll rows)) => some (.ok (.val (.list (rows.map .list))), r.set i (.frz b (.list (rows.map .list))))
  | _ => none
def mC (d : D) : M RV := M.ret (.val d)
/-- an operand by its slot; by an expression -/
def oS (i : Nat) : M AV := fun r => match look2 r (.slot i) with
  | some _ => some (.ok (.slot i), r)
  | none => none
def oE (m : M RV) : M AV := m.bind fun rv => M.of (rv.data.map .val)
def oL : List (M AV) → M (List AV)
  | [] => M.ret []
  | m :: ms => m.bind fun a => (oL ms).bind fun as => M.ret (a :: as)
/-- the operation, its operands looked at -/
def mFin (g : List Rs → Option RV) (as : List AV) : M RV := fun r => match looks2 r as with
  | none => none
  | some xs => (g xs).map fun v => (.ok v, r)
def mOp (g : List Rs → Option RV) (os : List (M AV)) : M RV := (oL os).bind (mFin g)
end DL
end

section
namespace DL
open PySem PySem.Spec PyProof.Rows L2
def TP (o : Obj) : Prop := o.cls = .type "tuple" ∧ o.dict = none
/-- a tuple whose object is known to have no dict -/
def TupAt (H : Hp) (a : Addr) (xs : List V) : Prop := ∃ o, TP o ∧ H a = some (.frz o (.tup xs))
theorem TupAt.sq {K : PySem.W.Frag} {H : Hp} {a : Addr} {xs : List V} (h : TupAt H a xs) : SqT K H a xs := let ⟨o, _, e⟩ := h; .inl (.inr ⟨o, e⟩)
theorem tup_same {H H' : Hp} {a : Addr} {xs : List V} (e : Same H H') (h : TupAt H a xs) : TupAt H' a xs := let ⟨o, t, q⟩ := h; ⟨o, t, e _ _ q⟩
theorem tupAt_new {H : Hp} {p : Addr} {o : Obj} {xs : List V} (t : TP o) : TupAt (upd H p (.frz o (.tup xs))) p xs := ⟨o, t, upd_same⟩
section
variable {X : Cx} {pins : List (Addr × Obj)} {σ : L2.St} {H : Hp} {s : Shared}
theorem Inv.layT {its : List Value} {xs : List V} {t' : Nat} {h' : Heap} (I : Inv X pins σ H s) (k : ∀ b u, s.heap.get? b = some u → h'.get? b = some u) (hs : h'.objs.size = s.heap.objs.size) (hv : Vals xs its) (hz : xs.length ≤ sizeLine) :
    Inv X pins σ (upd H h'.objs.size (.frz { cls := .type "tuple", data := .seq its.toArray } (.tup xs))) { s with heap := h'.push { cls := .type "tuple", data := .seq its.toArray }, toks := t' } := by
  have e := Heap.get?_push_size h' (o := { cls := .type "tuple", data := .seq its.toArray }) rfl
  exact I.laid (fun b o q => Heap.get?_push_of_some _ (k b o q)) (by rw [hs]; exact Nat.le_refl _) ⟨e, hz, its, hv, ⟨_, e, rfl, _, rfl⟩⟩
theorem fe_tup {es : List Expr} {t : TA} {x1 : Nat} {pos : Pos} (h : PA X es t) : PE X (.Tuple es x1 pos) (fun σ H Q => t σ H fun xs H1 => xs.length ≤ sizeLine ∧ ∀ p o, H1 p = none → TP o → Q (.ref p) (upd H1 p (.frz o (.tup xs)))) := by
  refine ⟨fun pins s σ H Q I hq => ?_⟩
  refine wpAny_Tuple_spliced (thn (h.run pos pins s σ H _ I hq) fun us s1 ⟨xs, H1, I1, r, z, q⟩ => ⟨by rw [← r.length]; exact z, ?_⟩)
  have hf : H1 s1.heap.objs.size = none := I1.hok.fresh (Nat.le_refl _)
  exact ⟨.ref s1.heap.objs.size, _, Inv.layT (t' := s1.toks) I1 (fun b u e => e) rfl r z, rfl, q _ _ hf ⟨rfl, rfl⟩⟩
theorem fcall_tuple : CallR X (.type "tuple") (fun xs H Q => ∃ p ys, xs = [.ref p] ∧ ((SqL X.K H p ys ∧ ∀ l o, H l = none → TP o → Q (.ref l) (upd H l (.frz o (.tup ys)))) ∨ (SqT X.K H p ys ∧ Q (.ref p) H))) := by
  intro pins s σ H xs us Q I r h
  obtain ⟨p, ys, rfl, h⟩ := h
  obtain ⟨u, rfl, rx⟩ := vals1 r
  cases rx
  rcases h with ⟨hq, q⟩ | ⟨hq, q⟩
  · obtain ⟨its, r', pl, hz⟩ := I.list hq
    have hlen := r'.length
    refine call_tuple_list pl.isList (fun h' kp => ?_) (by simp only [List.size_toArray] <;> omega)
    have I1 : Inv X pins σ H { s with heap := h' } := I.kept (t' := s.toks) kp
    exact ⟨.ref h'.objs.size, _, Inv.layT (s := { s with heap := h' }) (t' := s.toks) I1 (fun b u e => e) rfl r' hz, rfl, q _ _ (I1.hok.fresh (Nat.le_refl _)) ⟨rfl, rfl⟩⟩
  · obtain ⟨its, r', pl, hz⟩ := I.tuple hq
    exact call_tuple_same pl ⟨.ref p, H, I, rfl, q⟩
theorem fop_cat : OpR X (binaryOp .Add) (fun x y H Q => ∃ a b xs ys, x = .ref a ∧ y = .ref b ∧ SqT X.K H a xs ∧ SqT X.K H b ys ∧ xs.length + ys.length ≤ sizeLine ∧
    (xs = [] → Q (.ref b) H) ∧ (xs ≠ [] → ys = [] → Q (.ref a) H) ∧ (xs ≠ [] → ys ≠ [] → ∀ p o, H p = none → TP o → Q (.ref p) (upd H p (.frz o (.tup (xs ++ ys)))))) := by
  intro pins s σ H x y v u Q I rx ry h
  obtain ⟨a, b, xs, ys, rfl, rfl, ha, hb, hz, q0, q1, q2⟩ := h
  cases rx
  cases ry
  obtain ⟨its, r1, p1, _⟩ := I.tuple ha
  obtain ⟨its2, r2, p2, _⟩ := I.tuple hb
  by_cases hx : xs = []
  · subst hx
    cases r1
    exact cat_tup0 p1 p2 ⟨.ref b, H, I, rfl, q0 rfl⟩
  · refine HT.cat_tup p1 p2 (fun z => hx (r1.nil_iff.mp z)) (fun z => ⟨.ref a, H, I, rfl, q1 hx (r2.nil_iff.mp z)⟩) (fun z => ?_) (by rw [← r1.length, ← r2.length]; exact hz)
    exact ⟨.ref s.heap.objs.size, _, Inv.layT (t' := s.toks) I (fun b u e => e) rfl (r1.append r2) (by rw [List.length_append]; exact hz), rfl, q2 hx (fun w => z (r2.nil_iff.mpr w)) _ _ (I.hok.fresh (Nat.le_refl _)) ⟨rfl, rfl⟩⟩
def rSlF (K : PySem.W.Frag) : V → Option Int → Option Int → Hp → VK → Prop := fun x lo hi H Q => ∃ a xs, x = .ref a ∧ SqT K H a xs ∧
  (HT.sIx xs.length 0 lo = 0 ∧ HT.sIx xs.length xs.length hi = xs.length → Q (.ref a) H) ∧ (¬ (HT.sIx xs.length 0 lo = 0 ∧ HT.sIx xs.length xs.length hi = xs.length) → ∀ p o, H p = none → TP o → Q (.ref p) (upd H p (.frz o (.tup (cutV xs lo hi)))))
theorem fsl_tup : SlR X (rSlF X.K) := by
  intro pins s σ H x v vl vu lo hi sl Q I rx hs pl pu h
  obtain ⟨a, xs, rfl, hx, q1, q2⟩ := h
  cases rx
  obtain ⟨its, r, ht, hz⟩ := I.tuple hx
  have hlen : its.toArray.size = xs.length := by rw [List.size_toArray]; exact r.length.symm
  refine ⟨"tuple", _, PyProof.Rows.slot_tuple_getitem.lookup, ht.typeIs, ?_⟩
  by_cases hw : HT.sIx xs.length 0 lo = 0 ∧ HT.sIx xs.length xs.length hi = xs.length
  · exact getItem_tuple_whole ht hs pl pu (by rw [hlen]; exact hw) ⟨.ref a, H, I, rfl, q1 hw⟩
  · refine HT.getItem_tuple_cut ht hs pl pu (by rw [hlen]; exact hw) ?_ (by rw [hlen]; exact hz)
    rw [hlen]
    exact ⟨.ref s.heap.objs.size, _, Inv.layT (t' := s.toks) I (fun b u e => e) rfl ((r.drop (HT.sIx xs.length 0 lo)).take (HT.sIx xs.length xs.length hi - HT.sIx xs.length 0 lo)) (Nat.le_trans (cutV_length xs lo hi) hz), rfl, q2 hw _ _ (I.hok.fresh (Nat.le_refl _)) ⟨rfl, rfl⟩⟩
end
end DL
end

section
namespace DL
open PySem
def fnD (x : Str) : D := .dict [(.str x, .none)]
end DL
end

section
namespace DL
open PySem PySem.Spec PyProof.Rows L2

theorem sqt_same {K : PySem.W.Frag} {H H' : Hp} {a : Addr} {xs : List V} (e : Same H H') (h : SqT K H a xs) : SqT K H' a xs := by
  rcases h with (h | ⟨o, h⟩) | h
  · exact .inl (.inl (e _ _ h))
  · exact .inl (.inr ⟨o, e _ _ h⟩)
  · exact .inr h
/-- data in the heap; a dict stands here for the law's script, which is only ever cut -/
def scrD (ns : List Int) : D := .dict ((.none, .none) :: ns.map fun n => (.int n, .none))
mutual
inductive Dq (K : PySem.W.Frag) (H : Hp) : V → D → Prop
  | non : Dq K H .non .none
  | bl (b : Bool) : Dq K H (.bl b) (.bool b)
  | int (i : Int) : Dq K H (.int i) (.int i)
  | str (x : Str) : Dq K H (.str x) (.str x)
  | lst {a : Addr} {xs : List V} {ds : List D} : H a = some (.lst xs) → DqAll K H xs ds → Dq K H (.ref a) (.list ds)
  | tup {a : Addr} {xs : List V} {ds : List D} : TupAt H a xs → DqAll K H xs ds → Dq K H (.ref a) (.tuple ds)
  | scr {a : Addr} {ns : List Int} {d : D} : SqL K H a (ns.map V.int) → d = scrD ns → Dq K H (.ref a) d
  | dic {a : Addr} : H a = some (.dK []) → Dq K H (.ref a) (.dict [])
  | dii {a : Addr} {i j : Int} : H a = some (.dK [(.inl i, .int j)]) → Dq K H (.ref a) (.dict [(.int i, .int j)])
  | fn {a : Addr} {x : Str} {d : D} : PySem.W.nsIn K mainGlobals x = some (some (.ref a)) → d = fnD x → Dq K H (.ref a) d
inductive DqAll (K : PySem.W.Frag) (H : Hp) : List V → List D → Prop
  | nil : DqAll K H [] []
  | cons {v : V} {vs : List V} {d : D} {ds : List D} : Dq K H v d → DqAll K H vs ds → DqAll K H (v :: vs) (d :: ds)
end
mutual
theorem dp_same {K : PySem.W.Frag} {H H' : Hp} (e : Same H H') : ∀ {v : V} {d : D}, Dq K H v d → Dq K H' v d
  | _, _, .non => .non
  | _, _, .bl b => .bl b
  | _, _, .int i => .int i
  | _, _, .str x => .str x
  | _, _, .lst s a => .lst (e _ _ s) (dpa_same e a)
  | _, _, .scr s h => .scr (e.seq s) h
  | _, _, .fn s h => .fn s h
  | _, _, .dic s => .dic (e _ _ s)
  | _, _, .dii s => .dii (e _ _ s)
  | _, _, .tup s a => .tup (tup_same e s) (dpa_same e a)
theorem dpa_same {K : PySem.W.Frag} {H H' : Hp} (e : Same H H') : ∀ {vs : List V} {ds : List D}, DqAll K H vs ds → DqAll K H' vs ds
  | _, _, .nil => .nil
  | _, _, .cons h t => .cons (dp_same e h) (dpa_same e t)
end
theorem DqAll.length {K : PySem.W.Frag} {H : Hp} : ∀ {vs : List V} {ds : List D}, DqAll K H vs ds → vs.length = ds.length
  | _, _, .nil => rfl
  | _, _, .cons _ t => by simp [DqAll.length t]
theorem DqAll.get {K : PySem.W.Frag} {H : Hp} : ∀ {vs : List V} {ds : List D} {i : Nat} {d : D}, DqAll K H vs ds → ds[i]? = some d → ∃ v, vs[i]? = some v ∧ Dq K H v d
  | _, _, _, _, .nil, e => by simp at e
  | _, _, 0, _, .cons h _, e => by simp at e; subst e; exact ⟨_, rfl, h⟩
  | _, _, i + 1, _, .cons _ t, e => by
    obtain ⟨v, h1, h2⟩ := DqAll.get (i := i) t (by simpa using e)
    exact ⟨v, by simpa using h1, h2⟩
theorem DqAll.append {K : PySem.W.Frag} {H : Hp} : ∀ {vs ws : List V} {ds es : List D}, DqAll K H vs ds → DqAll K H ws es → DqAll K H (vs ++ ws) (ds ++ es)
  | _, _, _, _, .nil, s => s
  | _, _, _, _, .cons h t, s => .cons h (DqAll.append t s)
theorem DqAll.take {K : PySem.W.Frag} {H : Hp} : ∀ {vs : List V} {ds : List D} (n : Nat), DqAll K H vs ds → DqAll K H (vs.take n) (ds.take n)
  | _, _, 0, _ => by simpa using DqAll.nil
  | _, _, _ + 1, .nil => .nil
  | _, _, n + 1, .cons h t => .cons h (DqAll.take n t)
theorem DqAll.drop {K : PySem.W.Frag} {H : Hp} : ∀ {vs : List V} {ds : List D} (n : Nat), DqAll K H vs ds → DqAll K H (vs.drop n) (ds.drop n)
  | _, _, 0, h => by simpa using h
  | _, _, _ + 1, .nil => .nil
  | _, _, n + 1, .cons _ t => DqAll.drop n t
theorem DqAll.set {K : PySem.W.Frag} {H : Hp} {v : V} {d : D} (r : Dq K H v d) : ∀ {vs : List V} {ds : List D} (i : Nat), DqAll K H vs ds → DqAll K H (vs.set i v) (ds.set i d)
  | _, _, _, .nil => .nil
  | _, _, 0, .cons _ t => .cons r t
  | _, _, i + 1, .cons h t => .cons h (DqAll.set r i t)
theorem DqAll.eraseIdx {K : PySem.W.Frag} {H : Hp} : ∀ {vs : List V} {ds : List D} (i : Nat), DqAll K H vs ds → DqAll K H (vs.eraseIdx i) (ds.eraseIdx i)
  | _, _, _, .nil => .nil
  | _, _, 0, .cons _ t => t
  | _, _, i + 1, .cons h t => .cons h (DqAll.eraseIdx i t)
theorem DqAll.reverse {K : PySem.W.Frag} {H : Hp} {vs : List V} {ds : List D} (h : DqAll K H vs ds) : DqAll K H vs.reverse ds.reverse := by
  induction vs generalizing ds with
  | nil => cases h; exact .nil
  | cons v vs ih =>
    cases h with
    | cons h t =>
      rw [List.reverse_cons, List.reverse_cons]
      exact DqAll.append (ih t) (.cons h .nil)
theorem dp_list {K : PySem.W.Frag} {H : Hp} {v : V} {ds : List D} (h : Dq K H v (.list ds)) : ∃ a xs, v = .ref a ∧ H a = some (.lst xs) ∧ DqAll K H xs ds := by
  cases h with
  | lst s a => exact ⟨_, _, rfl, s, a⟩
  | scr s h => cases h
  | fn s h => cases h
theorem dp_tuple {K : PySem.W.Frag} {H : Hp} {v : V} {ds : List D} (h : Dq K H v (.tuple ds)) : ∃ a xs, v = .ref a ∧ TupAt H a xs ∧ DqAll K H xs ds := by
  cases h with
  | tup s a => exact ⟨_, _, rfl, s, a⟩
  | scr s h => cases h
  | fn s h => cases h
mutual
theorem dq_dp {K : PySem.W.Frag} {H : Hp} : ∀ {v : V} {d : D}, Dq K H v d → d.canLay0 = true → Dp K H v d
  | _, _, .non, _ => .non
  | _, _, .bl b, _ => .bl b
  | _, _, .int i, _ => .int i
  | _, _, .str x, _ => .str x
  | _, _, .lst s a, h => .lst (.inl (.inl s)) (dqa_dpa a (by simpa [PyData.canLay0] using h))
  | _, _, .tup s a, h => .tup s.sq (dqa_dpa a (by simpa [PyData.canLay0] using h))
  | _, _, .scr s e, h => by subst e; simp [scrD, PyData.canLay0] at h
  | _, _, .fn s e, h => by subst e; simp [fnD, PyData.canLay0] at h
  | _, _, .dic s, h => by simp [PyData.canLay0] at h
  | _, _, .dii s, h => by simp [PyData.canLay0] at h
theorem dqa_dpa {K : PySem.W.Frag} {H : Hp} : ∀ {vs : List V} {ds : List D}, DqAll K H vs ds → PyData.canLayAll0 ds = true → DpAll K H vs ds
  | _, _, .nil, _ => .nil
  | _, _, .cons a t, h => by
    simp only [PyData.canLayAll0, Bool.and_eq_true] at h
    exact .cons (dq_dp a h.1) (dqa_dpa t h.2)
end
theorem dp_int {K : PySem.W.Frag} {H : Hp} {v : V} {i : Int} (h : Dq K H v (.int i)) : v = .int i := by
  cases h with
  | int => rfl
  | scr s h => cases h
  | fn s h => cases h
theorem dp_bl {K : PySem.W.Frag} {H : Hp} {v : V} {i : Bool} (h : Dq K H v (.bool i)) : v = .bl i := by
  cases h with
  | bl => rfl
  | scr s h => cases h
  | fn s h => cases h
theorem dp_str {K : PySem.W.Frag} {H : Hp} {v : V} {i : Str} (h : Dq K H v (.str i)) : v = .str i := by
  cases h with
  | str => rfl
  | scr s h => cases h
  | fn s h => cases h
theorem dp_non {K : PySem.W.Frag} {H : Hp} {v : V} (h : Dq K H v .none) : v = .non := by
  cases h with
  | non => rfl
  | scr s h => cases h
  | fn s h => cases h

abbrev KvR (K : PySem.W.Frag) (B : Hp) {κ : Type} : List (κ × V) → List (κ × D) → Prop := Paired fun p q => p.1 = q.1 ∧ Dq K B p.2 q.2
theorem kvr_same {K : PySem.W.Frag} {B B' : Hp} (e : Same B B') {κ : Type} : ∀ {l : List (κ × V)} {m : List (κ × D)}, KvR K B l m → KvR K B' l m
  | _, _, .nil => .nil
  | _, _, .cons h t => .cons ⟨h.1, dp_same e h.2⟩ (kvr_same e t)
/-- the lists at as hold the rows -/
def RowsAt (K : PySem.W.Frag) (B H : Hp) : List Addr → List (List D) → Prop := Paired fun a ds => ∃ vs, H a = some (.lst vs) ∧ DqAll K B vs ds
theorem rowsAt_same {K : PySem.W.Frag} {B H B' H' : Hp} (e : Same B B') : ∀ {as : List Addr} {rows : List (List D)}, RowsAt K B H as rows → (∀ a ∈ as, H' a = H a) → RowsAt K B' H' as rows
  | _, _, .nil, _ => .nil
  | _, _, .cons h t, k => .cons (by obtain ⟨vs, h1, h2⟩ := h; exact ⟨vs, by rw [k _ List.mem_cons_self]; exact h1, dpa_same e h2⟩) (rowsAt_same e t fun a ha => k a (List.mem_cons_of_mem _ ha))
theorem rowsAt_some {K : PySem.W.Frag} {B H : Hp} : ∀ {as : List Addr} {rows : List (List D)}, RowsAt K B H as rows → ∀ a ∈ as, H a ≠ none
  | _, _, .nil, a, h => by cases h
  | _, _, .cons h t, a, ha => by
    rcases List.mem_cons.mp ha with rfl | ha
    · obtain ⟨vs, h1, _⟩ := h; rw [h1]; simp
    · exact rowsAt_some t a ha
/-- the entries of a dict of lists -/
def dlV (kvs : List (Ky × List D)) (as : List Addr) : List (Ky × V) := List.zipWith (fun kv a => (kv.1, V.ref a)) kvs as
theorem dlV_inj : ∀ {kvs : List (Ky × List D)} {as bs : List Addr}, as.length = kvs.length → bs.length = kvs.length → dlV kvs as = dlV kvs bs → as = bs
  | [], [], [], _, _, _ => rfl
  | [], _ :: _, _, h, _, _ => by simp at h
  | [], _, _ :: _, _, h, _ => by simp at h
  | _ :: _, [], _, h, _, _ => by simp at h
  | _ :: _, _, [], _, h, _ => by simp at h
  | kv :: kvs, a :: as, b :: bs, h1, h2, h => by
    simp only [dlV, List.zipWith_cons_cons, List.cons.injEq, Prod.mk.injEq, V.ref.injEq, true_and] at h
    rw [h.1, dlV_inj (kvs := kvs) (by simpa using h1) (by simpa using h2) h.2]
/-- the hash of a tuple of whole numbers; a dict with such keys; its entries as the slots' meanings -/
def tHash (ks : List Int) : Int := reduceHash (Builtin.Tuple.tupleHashOf (ks.map hashInt))
def DTob (l : Addr) (xs : List (List Int × Addr × Value)) (h : Heap) : Prop :=
  ∃ o es ep, h.get? l = some o ∧ o.ExactDict ∧ o.data = .dict es ep ∧ es.toList = xs.map fun x => (⟨tHash x.1, .ref x.2.1, x.2.2⟩ : DictEntry)
def DTo (l : Addr) (xs : List (List Int × Addr × Value)) : HO := .ext (DTob l xs)
def TkP (K : PySem.W.Frag) (B : Hp) : List (List Int × Addr × Value) → List (List Ky × D) → Prop :=
  Paired fun x kv => kv.1 = x.1.map Sum.inl ∧ TupAt B x.2.1 (x.1.map V.int) ∧ ∃ v, RelV v x.2.2 ∧ Dq K B v kv.2
def TkR (K : PySem.W.Frag) (B : Hp) (l : Addr) (xs : List (List Int × Addr × Value)) (kvs : List (List Ky × D)) : Prop :=
  (l == sysModules) = false ∧ xs.length ≤ sizeLine ∧ (xs.map (·.1)).Nodup ∧ TkP K B xs kvs
theorem tkp_same {K : PySem.W.Frag} {B B' : Hp} (e : Same B B') : ∀ {xs : List (List Int × Addr × Value)} {kvs : List (List Ky × D)}, TkP K B xs kvs → TkP K B' xs kvs
  | _, _, .nil => .nil
  | _, _, .cons h t => .cons (by obtain ⟨h1, h2, v, h3, h4⟩ := h; exact ⟨h1, tup_same e h2, v, h3, dp_same e h4⟩) (tkp_same e t)
theorem tkr_same {K : PySem.W.Frag} {B B' : Hp} (e : Same B B') {l : Addr} {xs : List (List Int × Addr × Value)} {kvs : List (List Ky × D)} (h : TkR K B l xs kvs) : TkR K B' l xs kvs := ⟨h.1, h.2.1, h.2.2.1, tkp_same e h.2.2.2⟩
/-- the object c stands at l; F: all addresses that are owned by it -/
def OwnR (K : PySem.W.Frag) (B H : Hp) : Ct → Addr → List Addr → Prop
  | .lst ds, l, F => F = [l] ∧ ∃ vs, H l = some (.lst vs) ∧ DqAll K B vs ds
  | .dK kvs, l, F => F = [l] ∧ ∃ vs, H l = some (.dK vs) ∧ KvR K B vs kvs
  | .dT kvs, l, F => F = [l] ∧ ∃ xs, H l = some (DTo l xs) ∧ TkR K B l xs kvs
  | .ll rows, l, F => ∃ as : List Addr, F = l :: as ∧ H l = some (.lst (as.map V.ref)) ∧ (l :: as).Nodup ∧ RowsAt K B H as rows
  | .dl kvs, l, F => ∃ as : List Addr, F = l :: as ∧ H l = some (.dK (dlV kvs as)) ∧ (l :: as).Nodup ∧ RowsAt K B H as (kvs.map (·.2))
  | .tab P q, l, F => F = [l] ∧ ∃ ps : Array Value, H l = some (.tbl ps) ∧ l = P ∧ TriplesOk ps.toList ∧ ∀ (pos : Pos) (cv : Value), codeAmong pos ps.toList = some cv → ∃ c, cv = .ref c ∧ B c = some (LamX.CodeO c q)
theorem rowsAt_len {K : PySem.W.Frag} {B H : Hp} {as : List Addr} {rows : List (List D)} (h : RowsAt K B H as rows) : as.length = rows.length := Paired.length h
theorem ref_inj : ∀ {as bs : List Addr}, as.map V.ref = bs.map V.ref → as = bs
  | [], [], _ => rfl
  | [], _ :: _, h => by cases h
  | _ :: _, [], h => by cases h
  | a :: as, b :: bs, h => by
    simp only [List.map_cons, List.cons.injEq, V.ref.injEq] at h
    rw [h.1, ref_inj h.2]
theorem ownR_mem {K : PySem.W.Frag} {B H : Hp} {c : Ct} {l : Addr} {F : List Addr} (h : OwnR K B H c l F) : l ∈ F := by
  cases c with
  | ll rows => obtain ⟨as, rfl, _⟩ := h; simp
  | dl rows => obtain ⟨as, rfl, _⟩ := h; simp
  | _ => (obtain ⟨rfl, _⟩ := h; simp)
theorem ownR_some {K : PySem.W.Frag} {B H : Hp} {c : Ct} {l : Addr} {F : List Addr} (h : OwnR K B H c l F) : ∀ a ∈ F, H a ≠ none := by
  cases c with
  | ll rows =>
    obtain ⟨as, rfl, e, _, r⟩ := h
    intro a ha
    rcases List.mem_cons.mp ha with rfl | ha
    · rw [e]; simp
    · exact rowsAt_some r a ha
  | dl rows =>
    obtain ⟨as, rfl, e, _, r⟩ := h
    intro a ha
    rcases List.mem_cons.mp ha with rfl | ha
    · rw [e]; simp
    · exact rowsAt_some r a ha
  | _ => (obtain ⟨rfl, vs, e, _⟩ := h; intro a ha; simp at ha; subst ha; rw [e]; simp)
theorem ownR_same {K : PySem.W.Frag} {B H B' H' : Hp} {c : Ct} {l : Addr} {F : List Addr} (h : OwnR K B H c l F) (e : Same B B') (k : ∀ a ∈ F, H' a = H a) : OwnR K B' H' c l F := by
  cases c with
  | lst ds => obtain ⟨rfl, vs, e1, r⟩ := h; exact ⟨rfl, vs, by rw [k l (by simp)]; exact e1, dpa_same e r⟩
  | dK ds => obtain ⟨rfl, vs, e1, r⟩ := h; exact ⟨rfl, vs, by rw [k l (by simp)]; exact e1, kvr_same e r⟩
  | dT ds => obtain ⟨rfl, vs, e1, r⟩ := h; exact ⟨rfl, vs, by rw [k l (by simp)]; exact e1, tkr_same e r⟩
  | ll rows => obtain ⟨as, rfl, e1, nd, r⟩ := h; exact ⟨as, rfl, by rw [k l (by simp)]; exact e1, nd, rowsAt_same e r fun a ha => k a (by simp [ha])⟩
  | dl rows => obtain ⟨as, rfl, e1, nd, r⟩ := h; exact ⟨as, rfl, by rw [k l (by simp)]; exact e1, nd, rowsAt_same e r fun a ha => k a (by simp [ha])⟩
  | tab P q => obtain ⟨rfl, ps, e1, h1, h2, h3⟩ := h; exact ⟨rfl, ps, by rw [k l (by simp)]; exact e1, h1, h2, fun pos cv g => by obtain ⟨c, g1, g2⟩ := h3 pos cv g; exact ⟨c, g1, e _ _ g2⟩⟩
theorem ownR_uniq {K : PySem.W.Frag} {B H B' H' : Hp} {c : Ct} {l : Addr} {F F' : List Addr} (h : OwnR K B H c l F) (h' : OwnR K B' H' c l F') (k : ∀ a ∈ F, H' a = H a) : F' = F := by
  cases c with
  | ll rows =>
    obtain ⟨as, rfl, e1, _⟩ := h
    obtain ⟨as', rfl, e1', _⟩ := h'
    rw [k l (by simp), e1] at e1'
    have := HO.lst.inj (Option.some.inj e1')
    rw [ref_inj this]
  | dl rows =>
    obtain ⟨as, rfl, e1, _, r⟩ := h
    obtain ⟨as', rfl, e1', _, r'⟩ := h'
    rw [k l (by simp), e1] at e1'
    have := HO.dK.inj (Option.some.inj e1')
    rw [dlV_inj (by simpa using rowsAt_len r) (by simpa using rowsAt_len r') this]
  | _ => (obtain ⟨rfl, _⟩ := h; obtain ⟨rfl, _⟩ := h'; rfl)

/-- the slots' meaning: B: what stands still; O: what is owned -/
structure Con0 (K : PySem.W.Frag) (B H : Hp) (σ : L2.St) (r : Ro) (O : Addr → Prop) : Prop where
  sub : Same B H
  off : ∀ a, O a → B a = none
  liv : ∀ a, O a → H a ≠ none
  len : r.length = σ.length
  frz : ∀ (i : Nat) b d, r[i]? = some (Sl.frz b d) → ∃ v, σ[i]? = some (some v) ∧ Dq K B v d
  own : ∀ (i : Nat) b c, r[i]? = some (Sl.own b c) → ∃ l F, σ[i]? = some (some (V.ref l)) ∧ OwnR K B H c l F ∧ ∀ a ∈ F, O a
  sep : ∀ (i j : Nat) b c b' c' l l' F F', i ≠ j → r[i]? = some (Sl.own b c) → r[j]? = some (Sl.own b' c') → σ[i]? = some (some (V.ref l)) → σ[j]? = some (some (V.ref l')) →
    OwnR K B H c l F → OwnR K B H c' l' F' → ∀ a ∈ F, a ∉ F'
/-- slots that look into a list of lists -/
def Al (H : Hp) (σ : L2.St) (r : Ro) : Prop := ∀ (i j k : Nat), r[i]? = some (Sl.al j k) → ∀ b rows l (as : List Addr), r[j]? = some (Sl.own b (.ll rows)) → σ[j]? = some (some (V.ref l)) → H l = some (.lst (as.map V.ref)) →
  ∃ a, as[k]? = some a ∧ σ[i]? = some (some (V.ref a))
structure Con (K : PySem.W.Frag) (B H : Hp) (σ : L2.St) (r : Ro) (O : Addr → Prop) : Prop extends Con0 K B H σ r O where
  al : Al H σ r
/-- from one state to a later one -/
structure Step (B H : Hp) (O : Addr → Prop) (B' H' : Hp) (O' : Addr → Prop) : Prop where
  sB : Same B B'
  keep : ∀ a o, H a = some o → ¬ O a → H' a = some o
  live : ∀ a, H a ≠ none → H' a ≠ none
  nB : ∀ a, H a ≠ none → ¬ O a → B a = none → B' a = none
  nO : ∀ a, O' a → O a ∨ H a = none
theorem Step.refl {B H : Hp} {O : Addr → Prop} : Step B H O B H O := ⟨Same.refl _, fun _ _ h _ => h, fun _ h => h, fun _ _ _ h => h, fun _ h => .inl h⟩
theorem Step.trans {B H B1 H1 B2 H2 : Hp} {O O1 O2 : Addr → Prop} (s : Step B H O B1 H1 O1) (t : Step B1 H1 O1 B2 H2 O2) : Step B H O B2 H2 O2 := by
  have no1 : ∀ a, H a ≠ none → ¬ O a → ¬ O1 a := fun a h n h1 => (s.nO a h1).elim n h
  refine ⟨s.sB.trans t.sB, fun a o h n => t.keep a o (s.keep a o h n) (no1 a (by rw [h]; simp) n), fun a h => t.live a (s.live a h), fun a h n b => t.nB a (s.live a h) (no1 a h n) (s.nB a h n b), fun a h => ?_⟩
  rcases t.nO a h with h | h
  · exact s.nO a h
  · by_cases q : H a = none
    · exact .inr q
    · exact absurd h (s.live a q)
/-- a lent parameter's slot stays -/
def pinned : Sl → Bool
  | .frz b _ => b
  | .own b _ => b
  | .non => false
  | .al _ _ => false
def Bor (r : Ro) (σ : L2.St) (r' : Ro) (σ' : L2.St) : Prop := ∀ (i : Nat) (x : Sl), r[i]? = some x → pinned x = true → (∃ y, r'[i]? = some y ∧ pinned y = true) ∧ σ'[i]? = σ[i]?
theorem Bor.refl {r : Ro} {σ : L2.St} : Bor r σ r σ := fun _ x h p => ⟨⟨x, h, p⟩, rfl⟩
theorem Bor.trans {r r1 r2 : Ro} {σ σ1 σ2 : L2.St} (a : Bor r σ r1 σ1) (b : Bor r1 σ1 r2 σ2) : Bor r σ r2 σ2 := fun i x h p => by
  obtain ⟨⟨y, h1, p1⟩, e1⟩ := a i x h p
  obtain ⟨z, e2⟩ := b i y h1 p1
  exact ⟨z, e2.trans e1⟩

section
variable {K : PySem.W.Frag} {B H B' H' : Hp} {σ : L2.St} {r : Ro} {O O' : Addr → Prop}
/-- nothing that is owned was touched -/
theorem Con0.mono (c : Con0 K B H σ r O) (sB : Same B B') (sH : Same B' H') (k : ∀ a, O a → H' a = H a) (off : ∀ a, O a → B' a = none) : Con0 K B' H' σ r O := by
  refine ⟨sH, off, fun a h => by rw [k a h]; exact c.liv a h, c.len, fun i b d e => ?_, fun i b ct e => ?_, fun i j b c1 b' c2 l l' F F' ne e1 e2 s1 s2 o1 o2 => ?_⟩
  · obtain ⟨v, h1, h2⟩ := c.frz i b d e
    exact ⟨v, h1, dp_same sB h2⟩
  · obtain ⟨l, F, h1, h2, h3⟩ := c.own i b ct e
    exact ⟨l, F, h1, ownR_same h2 sB fun a ha => k a (h3 a ha), h3⟩
  · obtain ⟨m, G, g1, g2, g3⟩ := c.own i b c1 e1
    obtain ⟨m', G', g1', g2', g3'⟩ := c.own j b' c2 e2
    rw [s1] at g1; cases g1
    rw [s2] at g1'; cases g1'
    rw [ownR_uniq g2 o1 fun a ha => k a (g3 a ha), ownR_uniq g2' o2 fun a ha => k a (g3' a ha)]
    exact c.sep i j b c1 b' c2 _ _ _ _ ne e1 e2 s1 s2 g2 g2'
theorem Con.mono (c : Con K B H σ r O) (sB : Same B B') (sH : Same B' H') (k : ∀ a, O a → H' a = H a) (off : ∀ a, O a → B' a = none) : Con K B' H' σ r O :=
  ⟨c.toCon0.mono sB sH k off, fun i j kk h b rows l as h1 h2 h3 => by
    obtain ⟨l0, F, g1, g2, g3⟩ := c.own j b _ h1
    rw [h2] at g1; cases g1
    rw [k _ (g3 _ (ownR_mem g2))] at h3
    exact c.al i j kk h b rows _ as h1 h2 h3⟩
/-- a value's result in the heap; H: the heap at the start -/
def RvR (K : PySem.W.Frag) (H B' H' : Hp) (O' : Addr → Prop) : RV → V → Prop
  | .val d, v => Dq K B' v d
  | .new c, v => ∃ l F, v = .ref l ∧ OwnR K B' H' c l F ∧ ∀ a ∈ F, H a = none ∧ B' a = none ∧ ¬ O' a
def AvR (K : PySem.W.Frag) (B' : Hp) (σ : L2.St) : AV → V → Prop
  | .val d, v => Dq K B' v d
  | .slot i, v => σ[i]? = some (some v)
theorem AvR.same {a : AV} {v : V} (e : Same B B') (h : AvR K B σ a v) : AvR K B' σ a v := by
  cases a with
  | val d => exact dp_same e h
  | slot i => exact h
/-- an operand looked at, in the heap -/
def RsR (K : PySem.W.Frag) (B H : Hp) : Rs → V → Prop
  | .fz d, v => Dq K B v d
  | .ow c, v => ∃ l F, v = .ref l ∧ OwnR K B H c l F
theorem paired_at {α β : Type} {F : α → β → Prop} : ∀ {l : List α} {m : List β} {k : Nat} {y : β}, Paired F l m → m[k]? = some y → ∃ x, l[k]? = some x ∧ F x y
  | _, _, _, _, .nil, e => by simp at e
  | _, _, 0, x, .cons h t, e => by simp at e; subst e; exact ⟨_, rfl, h⟩
  | _, _, k + 1, x, .cons h t, e => by
    obtain ⟨y, h1, h2⟩ := paired_at (k := k) t (by simpa using e)
    exact ⟨y, by simpa using h1, h2⟩
theorem Con.look2_ (c : Con K B H σ r O) {a : AV} {x : Rs} {v : V} (h : look2 r a = some x) (e : AvR K B σ a v) : RsR K B H x v := by
  cases a with
  | val d => cases h; exact e
  | slot i =>
    simp only [DL.look2] at h
    split at h
    · rename_i b d q
      cases h
      obtain ⟨v', h1, h2⟩ := c.frz i b d q
      rw [show σ[i]? = some (some v) from e] at h1; cases h1
      exact h2
    · rename_i b ct q
      cases h
      obtain ⟨l, F, h1, h2, h3⟩ := c.own i b ct q
      rw [show σ[i]? = some (some v) from e] at h1; cases h1
      exact ⟨l, F, rfl, h2⟩
    · rename_i j k q
      split at h
      · rename_i b rows q2
        cases q3 : rows[k]? with
        | none => rw [q3] at h; cases h
        | some ds =>
          rw [q3] at h
          cases h
          obtain ⟨l, F, h1, ⟨as, rfl, h2, nd, ra⟩, h3⟩ := c.own j b _ q2
          obtain ⟨a, g1, g2⟩ := c.al i j k q b rows l as q2 h1 h2
          rw [show σ[i]? = some (some v) from e] at g2; cases g2
          obtain ⟨a', g3, vs, g4, g5⟩ := paired_at ra q3
          rw [g1] at g3; cases g3
          exact ⟨_, _, rfl, rfl, vs, g4, g5⟩
      · cases h
    · cases h
theorem Con.looks2_ (c : Con K B H σ r O) : ∀ {as : List AV} {xs : List Rs} {vs : List V}, looks2 r as = some xs → Paired (AvR K B σ) as vs → Paired (RsR K B H) xs vs
  | [], xs, vs, h, e => by
    cases h; cases e; exact .nil
  | a :: as, xs, vs, h, e => by
    cases e with
    | cons e1 e2 =>
      simp only [DL.looks2] at h
      split at h
      · rename_i x ys h1 h2
        cases h
        exact .cons (c.look2_ h1 e1) (Con.looks2_ c h2 e2)
      · cases h
theorem Con.look (c : Con K B H σ r O) {a : AV} {x : Rs} {v : V} (h : look r a = some x) (e : AvR K B σ a v) : RsR K B H x v := by
  cases a with
  | val d => cases h; exact e
  | slot i =>
    simp only [DL.look] at h
    split at h
    · rename_i b d q
      cases h
      obtain ⟨v', h1, h2⟩ := c.frz i b d q
      rw [show σ[i]? = some (some v) from e] at h1; cases h1
      exact h2
    · rename_i b ct q
      cases h
      obtain ⟨l, F, h1, h2, h3⟩ := c.own i b ct q
      rw [show σ[i]? = some (some v) from e] at h1; cases h1
      exact ⟨l, F, rfl, h2⟩
    · cases h
theorem Con.looks (c : Con K B H σ r O) : ∀ {as : List AV} {xs : List Rs} {vs : List V}, looks r as = some xs → Paired (AvR K B σ) as vs → Paired (RsR K B H) xs vs
  | [], xs, vs, h, e => by
    cases h; cases e; exact .nil
  | a :: as, xs, vs, h, e => by
    cases e with
    | cons e1 e2 =>
      simp only [DL.looks] at h
      split at h
      · rename_i x ys h1 h2
        cases h
        exact .cons (c.look h1 e1) (Con.looks c h2 e2)
      · cases h
/-- what an operation lays -/
def Alc (K : PySem.W.Frag) (B H H' : Hp) : RV → V → Prop
  | .val d, v => (H' = H ∧ Dq K B v d) ∨ (∃ p vs ds o, H p = none ∧ TP o ∧ H' = upd H p (.frz o (.tup vs)) ∧ d = .tuple ds ∧ DqAll K B vs ds ∧ v = .ref p)
  | .new (.lst ds), v => ∃ p vs, H p = none ∧ H' = upd H p (.lst vs) ∧ DqAll K B vs ds ∧ v = .ref p
  | .new (.dK kvs), v => ∃ p vs, H p = none ∧ H' = upd H p (.dK vs) ∧ KvR K B vs kvs ∧ v = .ref p
  | .new (.dT kvs), v => ∃ p xs, H p = none ∧ H' = upd H p (DTo p xs) ∧ TkR K B p xs kvs ∧ v = .ref p
  | .new (.ll _), _ => False
  | .new (.dl _), _ => False
  | .new (.tab _ _), _ => False
theorem same_new {p : Addr} {o : HO} (h : H p = none) : Same H (upd H p o) := fun b x e => by
  rw [upd_ne (ne_of_none e h)]; exact e
theorem Con.lay (c : Con K B H σ r O) {p : Addr} {o : HO} (hp : H p = none) : B p = none ∧ ¬ O p ∧ Con K B (upd H p o) σ r O ∧ Step B H O B (upd H p o) O := by
  have bp : B p = none := c.sub.free hp
  have np : ¬ O p := fun h => c.liv p h hp
  refine ⟨bp, np, c.mono (Same.refl _) (c.sub.trans (same_new hp)) (fun a h => ?_) c.off, ⟨Same.refl _, fun a o h _ => same_new hp _ _ h, fun a h => ?_, fun a _ _ h => h, fun a h => .inl h⟩⟩
  · rw [upd_ne (show a ≠ p from fun e => np (by rw [← e]; exact h))]
  · by_cases e : a = p
    · subst e; exact absurd hp h
    · rw [upd_ne e]; exact h
/-- a new object that stands still -/
theorem Con.layF (c : Con K B H σ r O) {p : Addr} {o : HO} (hp : H p = none) : Con K (upd B p o) (upd H p o) σ r O ∧ Step B H O (upd B p o) (upd H p o) O := by
  obtain ⟨bp, np, c1, s1⟩ := c.lay (o := o) hp
  have off : ∀ a, O a → upd B p o a = none := fun a h => by
    rw [upd_ne (show a ≠ p from fun e => np (by rw [← e]; exact h))]; exact c.off a h
  refine ⟨c1.mono (same_new bp) (fun a x h => ?_) (fun _ _ => rfl) off, ⟨same_new bp, s1.keep, s1.live, fun a h1 h2 h3 => ?_, s1.nO⟩⟩
  · by_cases e : a = p
    · subst e; rw [upd_same] at h ⊢; exact h
    · rw [upd_ne e] at h ⊢; exact c.sub a x h
  · rw [upd_ne (show a ≠ p from fun e => h1 (by rw [e]; exact hp))]; exact h3
theorem Con.alc (c : Con K B H σ r O) {x : RV} {v : V} (h : Alc K B H H' x v) : ∃ B', Step B H O B' H' O ∧ Con K B' H' σ r O ∧ RvR K H B' H' O x v := by
  cases x with
  | val d =>
    rcases h with ⟨rfl, h⟩ | ⟨p, vs, ds, o, hp, ht, rfl, rfl, h, rfl⟩
    · exact ⟨B, .refl, c, h⟩
    · obtain ⟨c1, s1⟩ := c.layF (o := .frz o (.tup vs)) hp
      exact ⟨_, s1, c1, .tup (tupAt_new ht) (dpa_same s1.sB h)⟩
  | new ct =>
    cases ct with
    | lst ds =>
      obtain ⟨p, vs, hp, rfl, h, rfl⟩ := h
      obtain ⟨bp, np, c1, s1⟩ := c.lay (o := .lst vs) hp
      exact ⟨B, s1, c1, p, [p], rfl, ⟨rfl, vs, upd_same, h⟩, fun a ha => by simp at ha; subst ha; exact ⟨hp, bp, np⟩⟩
    | dK kvs =>
      obtain ⟨p, vs, hp, rfl, h, rfl⟩ := h
      obtain ⟨bp, np, c1, s1⟩ := c.lay (o := .dK vs) hp
      exact ⟨B, s1, c1, p, [p], rfl, ⟨rfl, vs, upd_same, h⟩, fun a ha => by simp at ha; subst ha; exact ⟨hp, bp, np⟩⟩
    | dT kvs =>
      obtain ⟨p, vs, hp, rfl, h, rfl⟩ := h
      obtain ⟨bp, np, c1, s1⟩ := c.lay (o := DTo p vs) hp
      exact ⟨B, s1, c1, p, [p], rfl, ⟨rfl, vs, upd_same, h⟩, fun a ha => by simp at ha; subst ha; exact ⟨hp, bp, np⟩⟩
    | ll rows => exact h.elim
    | dl rows => exact h.elim
    | tab _ _ => exact h.elim
/-- an unowned list stands still from now on -/
theorem Con.still (c : Con K B H σ r O) {p : Addr} {o : HO} (hp : H p = some o) (bp : B p = none) (np : ¬ O p) : Con K (upd B p o) H σ r O := by
  refine c.mono (same_new bp) (fun a x h => ?_) (fun _ _ => rfl) fun a h => by rw [upd_ne (show a ≠ p from fun e => np (by rw [← e]; exact h))]; exact c.off a h
  by_cases e : a = p
  · subst e; rw [upd_same] at h; cases h; exact hp
  · rw [upd_ne e] at h; exact c.sub a x h
/-- a new result stands still from now on: its data -/
theorem Con.frozen (c : Con K B' H' σ r O') {x : RV} {d : D} {v : V} (s : Step B H O B' H' O') (h : RvR K H B' H' O' x v) (e : x.data = some d) : ∃ B2, Step B H O B2 H' O' ∧ Con K B2 H' σ r O' ∧ Dq K B2 v d ∧ Same B' B2 := by
  cases x with
  | val d' => cases e; exact ⟨B', s, c, h, Same.refl _⟩
  | new ct =>
    cases ct with
    | lst ds =>
      cases e
      obtain ⟨l, F, rfl, ⟨rfl, vs, e1, h1⟩, h2⟩ := h
      obtain ⟨n1, n2, n3⟩ := h2 l (by simp)
      have c2 := c.still e1 n2 n3
      refine ⟨_, ⟨s.sB.trans (same_new n2), s.keep, s.live, fun a q1 q2 q3 => ?_, s.nO⟩, c2, .lst upd_same (dpa_same (same_new n2) h1), same_new n2⟩
      rw [upd_ne (show a ≠ l from fun e => q1 (by rw [e]; exact n1))]
      exact s.nB a q1 q2 q3
    | dK _ => cases e
    | dT _ => cases e
    | ll _ => cases e
    | dl _ => cases e
    | tab _ _ => cases e
end

/-- how an exception lies: its class -/
def XnR (K : PySem.W.Frag) (mg : Str → Option Value) (x : Exn) (cls : Value) (dx : Option Addr) (H : Hp) : Prop :=
  ∃ C, mg (Str.ofString x.cls) = some (.ref C) ∧ cls = .ref C ∧ match x.row with
    | none => dx = none
    | some n => ∃ d, dx = some d ∧ H d = some (.xd [("row", .int n)])
/-- where meanings are read: the written part, the module's names, what is wanted of an exception -/
structure Ct2 where
  K : PySem.W.Frag
  mg : Str → Option Value
abbrev Rl (α β : Type) := Hp → Hp → Hp → (Addr → Prop) → L2.St → α → β → Prop
/-- m from the state (B, r, O), with an end -/
def At {α β : Type} (G : Ct2) (W : WX) (m : M α) (R : Rl α β) (B : Hp) (r : Ro) (O : Addr → Prop) (σ : L2.St) (H : Hp) (Q : β → Hp → Prop) : Prop :=
  Con G.K B H σ r O ∧ ∃ o r', m r = some (o, r') ∧ match o with
    | .ok a => ∀ B' H' O' y, Step B H O B' H' O' → Con G.K B' H' σ r' O' → Bor r σ r' σ → R H B' H' O' σ a y → Q y H'
    | .exc x => ∀ B' H' O' c dx, Step B H O B' H' O' → Con G.K B' H' σ r' O' → Bor r σ r' σ → XnR G.K G.mg x c dx H' → W c dx σ H'
def tG {α β : Type} (G : Ct2) (W : WX) (m : M α) (R : Rl α β) (σ : L2.St) (H : Hp) (Q : β → Hp → Prop) : Prop := ∃ B r O, At G W m R B r O σ H Q
/-- a later start does -/
def Later {α β : Type} (R : Rl α β) : Prop := ∀ H H1 B' H' O' σ a y, (∀ p, H p ≠ none → H1 p ≠ none) → R H1 B' H' O' σ a y → R H B' H' O' σ a y
def rV (G : Ct2) : Rl RV V := fun H B' H' O' _ x v => RvR G.K H B' H' O' x v
def rA (G : Ct2) : Rl AV V := fun _ B' _ _ σ a v => AvR G.K B' σ a v
def rL (G : Ct2) : Rl (List AV) (List V) := fun _ B' _ _ σ as vs => Paired (AvR G.K B' σ) as vs
def rB : Rl Bool Bool := fun _ _ _ _ _ a b => a = b
theorem later_rV {G : Ct2} : Later (rV G) := fun H H1 B' H' O' σ a y k h => by
  cases a with
  | val d => exact h
  | new c =>
    obtain ⟨l, F, e, o, h⟩ := h
    refine ⟨l, F, e, o, fun a ha => ⟨?_, (h a ha).2⟩⟩
    by_cases q : H a = none
    · exact q
    · exact absurd (h a ha).1 (k a q)
theorem later_rL {G : Ct2} : Later (rL G) := fun _ _ _ _ _ _ _ _ _ h => h
theorem later_rB : Later rB := fun _ _ _ _ _ _ _ _ _ h => h
section
variable {G : Ct2} {W : WX} {α β γ δ : Type} {m : M α} {f : α → M γ} {R : Rl α β} {R2 : Rl γ δ} {B : Hp} {r : Ro} {O : Addr → Prop} {σ : L2.St} {H : Hp}
theorem At.mono {Q Q' : β → Hp → Prop} (h : At G W m R B r O σ H Q) (q : ∀ y H', Q y H' → Q' y H') : At G W m R B r O σ H Q' := by
  obtain ⟨c, o, r', e, p⟩ := h
  refine ⟨c, o, r', e, ?_⟩
  cases o with
  | ok a => exact fun B' H' O' y s c b x => q _ _ (p B' H' O' y s c b x)
  | exc x => exact p
theorem tG.of {Q : β → Hp → Prop} (h : At G W m R B r O σ H Q) : tG G W m R σ H Q := ⟨B, r, O, h⟩
/-- the first of two -/
theorem At.bind {Q : δ → Hp → Prop} (h : At G W (m.bind f) R2 B r O σ H Q) (hl : Later R2) :
    At G W m R B r O σ H fun y H1 => ∃ a B1 r1 O1, Step B H O B1 H1 O1 ∧ R H B1 H1 O1 σ a y ∧ At G W (f a) R2 B1 r1 O1 σ H1 Q := by
  obtain ⟨c, o, r', e, p⟩ := h
  refine ⟨c, ?_⟩
  unfold M.bind at e
  cases q : m r with
  | none => rw [q] at e; cases e
  | some z =>
    obtain ⟨o1, r1⟩ := z
    rw [q] at e
    refine ⟨o1, r1, rfl, ?_⟩
    cases o1 with
    | exc x =>
      cases e
      exact p
    | ok a =>
      intro B1 H1 O1 y s1 c1 b1 x1
      refine ⟨a, B1, r1, O1, s1, x1, c1, o, r', e, ?_⟩
      cases o with
      | ok a2 => exact fun B2 H2 O2 y2 s2 c2 b2 x2 => p B2 H2 O2 y2 (s1.trans s2) c2 (b1.trans b2) (hl H H1 _ _ _ _ _ _ s1.live x2)
      | exc x => exact fun B2 H2 O2 c2 dx s2 k2 b2 x2 => p B2 H2 O2 c2 dx (s1.trans s2) k2 (b1.trans b2) x2
theorem At.ret {a : α} {Q : β → Hp → Prop} (h : At G W (M.ret a) R B r O σ H Q) {y : β} (x : R H B H O σ a y) : Q y H := by
  obtain ⟨c, o, r', e, p⟩ := h
  cases e
  exact p B H O y .refl c .refl x
end
end DL
end

section
namespace DL
open PySem PySem.Spec PyProof.Rows L2

theorem get_set {α : Type} {l : List α} {i j : Nat} {x y : α} (h : (l.set i x)[j]? = some y) : (j = i ∧ y = x) ∨ (j ≠ i ∧ l[j]? = some y) := by
  by_cases e : j = i
  · subst e
    by_cases hl : j < l.length
    · rw [List.getElem?_set_self hl] at h; cases h; exact .inl ⟨rfl, rfl⟩
    · rw [List.getElem?_eq_none (by rw [List.length_set]; omega)] at h; cases h
  · rw [List.getElem?_set_ne (Ne.symm e)] at h; exact .inr ⟨e, h⟩

section
variable {K : PySem.W.Frag} {B H B' H' : Hp} {σ σ' : L2.St} {r : Ro} {O O' : Addr → Prop}
/-- slot i is told anew -/
theorem Con0.replace (c : Con0 K B H σ r O) {i : Nat} {x : Sl} (hl : σ'.length = σ.length) (hs : ∀ j, j ≠ i → σ'[j]? = σ[j]?)
    (hx : match x with
      | .non => True
      | .al _ _ => True
      | .frz _ d => ∃ v, σ'[i]? = some (some v) ∧ Dq K B v d
      | .own _ ct => ∃ l F, σ'[i]? = some (some (V.ref l)) ∧ OwnR K B H ct l F ∧ (∀ a ∈ F, O a) ∧ ∀ (j : Nat) b' c' l' F', j ≠ i → r[j]? = some (Sl.own b' c') → σ[j]? = some (some (V.ref l')) → OwnR K B H c' l' F' → ∀ a ∈ F, a ∉ F') :
    Con0 K B H σ' (r.set i x) O := by
  refine ⟨c.sub, c.off, c.liv, by rw [List.length_set, c.len, hl], fun j b d e => ?_, fun j b ct e => ?_, fun j k b c1 b' c2 l l' F F' ne e1 e2 s1 s2 o1 o2 => ?_⟩
  · rcases get_set e with ⟨rfl, rfl⟩ | ⟨n, e⟩
    · exact hx
    · rw [hs j n]; exact c.frz j b d e
  · rcases get_set e with ⟨rfl, rfl⟩ | ⟨n, e⟩
    · obtain ⟨l, F, h1, h2, h3, _⟩ := hx
      exact ⟨l, F, h1, h2, h3⟩
    · rw [hs j n]; exact c.own j b ct e
  · rcases get_set e1 with ⟨rfl, rfl⟩ | ⟨n1, f1⟩
    · rcases get_set e2 with ⟨rfl, _⟩ | ⟨n2, f2⟩
      · exact absurd rfl ne
      · obtain ⟨m, G, g1, g2, g3, g4⟩ := hx
        rw [s1] at g1; cases g1
        rw [hs k n2] at s2
        rw [ownR_uniq g2 o1 fun a _ => rfl]
        exact g4 k b' c2 l' F' n2 f2 s2 o2
    · rcases get_set e2 with ⟨rfl, rfl⟩ | ⟨n2, f2⟩
      · obtain ⟨m, G, g1, g2, g3, g4⟩ := hx
        rw [s2] at g1; cases g1
        rw [hs j n1] at s1
        rw [ownR_uniq g2 o2 fun a _ => rfl]
        exact fun a ha hb => g4 j b c1 l F n1 f1 s1 o1 a hb ha
      · rw [hs j n1] at s1
        rw [hs k n2] at s2
        exact c.sep j k b c1 b' c2 l l' F F' ne f1 f2 s1 s2 o1 o2
theorem noAl_of {r : Ro} {i i2 k : Nat} (h : noAl r i = true) : r[i2]? ≠ some (Sl.al i k) := fun e => by
  have := List.all_eq_true.mp h _ (List.mem_of_getElem? e)
  simp at this
theorem Con.replace (c : Con K B H σ r O) {i : Nat} {x : Sl} (hl : σ'.length = σ.length) (hs : ∀ j, j ≠ i → σ'[j]? = σ[j]?)
    (hx : match x with
      | .non => True
      | .al _ _ => False
      | .frz _ d => ∃ v, σ'[i]? = some (some v) ∧ Dq K B v d
      | .own _ ct => ∃ l F, σ'[i]? = some (some (V.ref l)) ∧ OwnR K B H ct l F ∧ (∀ a ∈ F, O a) ∧ ∀ (j : Nat) b' c' l' F', j ≠ i → r[j]? = some (Sl.own b' c') → σ[j]? = some (some (V.ref l')) → OwnR K B H c' l' F' → ∀ a ∈ F, a ∉ F')
    (hal : ∀ b rows, x = .own b (.ll rows) → noAl r i = true) : Con K B H σ' (r.set i x) O := by
  refine ⟨c.toCon0.replace hl hs (by cases x <;> first | exact hx | trivial), fun i2 j k h b rows l as h1 h2 h3 => ?_⟩
  rcases get_set h with ⟨rfl, z⟩ | ⟨n, g⟩
  · subst z; exact hx.elim
  · rw [hs i2 n]
    rcases get_set h1 with ⟨rfl, z⟩ | ⟨n1, g1⟩
    · exact absurd g (noAl_of (hal b rows z.symm))
    · rw [hs j n1] at h2
      exact c.al i2 j k g b rows l as g1 h2 h3
theorem Con.forget (c : Con K B H σ r O) (i : Nat) : Con K B H σ (r.set i .non) O := c.replace (x := .non) rfl (fun _ _ => rfl) trivial (fun _ _ e => by cases e)
/-- fewer addresses are owned -/
theorem Con.shrink (c : Con K B H σ r O) (hO : ∀ a, O' a → O a) (hF : ∀ (i : Nat) b ct l F, r[i]? = some (Sl.own b ct) → σ[i]? = some (some (V.ref l)) → OwnR K B H ct l F → ∀ a ∈ F, O' a) : Con K B H σ r O' :=
  ⟨⟨c.sub, fun a h => c.off a (hO a h), fun a h => c.liv a (hO a h), c.len, c.frz, fun i b ct e => by
    obtain ⟨l, F, h1, h2, h3⟩ := c.own i b ct e
    exact ⟨l, F, h1, h2, hF i b ct l F e h1 h2⟩, c.sep⟩, c.al⟩
/-- more addresses are owned -/
theorem Con.grow (c : Con K B H σ r O) {F : List Addr} (hF : ∀ a ∈ F, B a = none ∧ H a ≠ none) : Con K B H σ r (fun a => O a ∨ a ∈ F) :=
  ⟨⟨c.sub, fun a h => h.elim (c.off a) fun h => (hF a h).1, fun a h => h.elim (c.liv a) fun h => (hF a h).2, c.len, c.frz, fun i b ct e => by
    obtain ⟨l, F, h1, h2, h3⟩ := c.own i b ct e
    exact ⟨l, F, h1, h2, fun a ha => .inl (h3 a ha)⟩, c.sep⟩, c.al⟩
theorem Con0.shrink0 (c : Con0 K B H σ r O) (hO : ∀ a, O' a → O a) (hF : ∀ (i : Nat) b ct l F, r[i]? = some (Sl.own b ct) → σ[i]? = some (some (V.ref l)) → OwnR K B H ct l F → ∀ a ∈ F, O' a) : Con0 K B H σ r O' :=
  ⟨c.sub, fun a h => c.off a (hO a h), fun a h => c.liv a (hO a h), c.len, c.frz, fun i b ct e => by
    obtain ⟨l, F, h1, h2, h3⟩ := c.own i b ct e
    exact ⟨l, F, h1, h2, hF i b ct l F e h1 h2⟩, c.sep⟩
theorem Con0.grow0 (c : Con0 K B H σ r O) {F : List Addr} (hF : ∀ a ∈ F, B a = none ∧ H a ≠ none) : Con0 K B H σ r (fun a => O a ∨ a ∈ F) :=
  ⟨c.sub, fun a h => h.elim (c.off a) fun h => (hF a h).1, fun a h => h.elim (c.liv a) fun h => (hF a h).2, c.len, c.frz, fun i b ct e => by
    obtain ⟨l, F, h1, h2, h3⟩ := c.own i b ct e
    exact ⟨l, F, h1, h2, fun a ha => .inl (h3 a ha)⟩, c.sep⟩
/-- slot i is let go: its addresses are no longer owned -/
theorem Con.release (c : Con K B H σ r O) {i : Nat} {b : Bool} {ct : Ct} {l : Addr} {F : List Addr} (e : r[i]? = some (Sl.own b ct)) (hs : σ[i]? = some (some (V.ref l))) (o : OwnR K B H ct l F) :
    Con K B H σ (r.set i .non) (fun a => O a ∧ a ∉ F) := by
  refine (c.forget i).shrink (fun _ h => h.1) fun j b' c' l' F' e' s' o' a ha => ?_
  rcases get_set e' with ⟨_, z⟩ | ⟨n, e'⟩
  · cases z
  · obtain ⟨m, G, g1, g2, g3⟩ := c.own j b' c' e'
    rw [s'] at g1; cases g1
    refine ⟨?_, fun z => c.sep i j b ct b' c' l l' F F' (Ne.symm n) e e' hs s' o o' a z ha⟩
    rw [ownR_uniq o' g2 fun _ _ => rfl] at g3
    exact g3 a ha
/-- an owned list stands still from now on -/
theorem Con.freeze (c : Con K B H σ r O) {i : Nat} {b : Bool} {ds : List D} (e : r[i]? = some (Sl.own b (.lst ds))) :
    ∃ B' O' v, σ[i]? = some (some v) ∧ Dq K B' v (.list ds) ∧ Step B H O B' H O' ∧ Con K B' H σ (r.set i (.frz b (.list ds))) O' := by
  obtain ⟨l, F, h1, o, h3⟩ := c.own i b _ e
  obtain ⟨rfl, vs, h4, h5⟩ := id o
  have c1 := c.release e h1 o
  have bl : B l = none := c.off l (h3 l (by simp))
  have c2 := c1.still h4 bl (fun h : O l ∧ l ∉ [l] => h.2 (by simp))
  have dp : Dq K (upd B l (.lst vs)) (.ref l) (.list ds) := .lst upd_same (dpa_same (same_new bl) h5)
  refine ⟨upd B l (.lst vs), fun a => O a ∧ a ∉ [l], .ref l, h1, dp, ⟨same_new bl, fun _ _ h _ => h, fun _ h => h, fun a q1 q2 q3 => ?_, fun a h => .inl h.1⟩, ?_⟩
  · rw [upd_ne (show a ≠ l from fun z => q2 (by rw [z]; exact h3 l (by simp)))]
    exact q3
  · have c3 := c2.replace (i := i) (x := .frz b (.list ds)) rfl (fun _ _ => rfl) ⟨_, h1, dp⟩ (fun _ _ e => by cases e)
    rw [List.set_set] at c3
    exact c3
/-- lists that are nobody's stand still from now on -/
theorem Con.stillAll : ∀ {as : List Addr} {rows : List (List D)} {B : Hp} (c : Con K B H σ r O) (ra : RowsAt K B H as rows) (nd : as.Nodup) (hb : ∀ a ∈ as, B a = none ∧ ¬ O a), ∃ B', Same B B' ∧ (∀ a, a ∉ as → B' a = B a) ∧ Con K B' H σ r O ∧ DqAll K B' (as.map V.ref) (rows.map .list)
  | [], _, B, c, .nil, _, _ => ⟨B, Same.refl _, fun _ _ => rfl, c, .nil⟩
  | a :: as, ds :: rows, B, c, .cons h t, nd, hb => by
    obtain ⟨vs, h1, h2⟩ := h
    simp only [List.nodup_cons] at nd
    obtain ⟨b1, n1⟩ := hb a (by simp)
    have c1 := c.still h1 b1 n1
    have sm := same_new (o := .lst vs) b1
    have t' : RowsAt K (upd B a (.lst vs)) H as rows := rowsAt_same sm t fun _ _ => rfl
    obtain ⟨B', s', k', c', d'⟩ := Con.stillAll c1 t' nd.2 fun x hx => by
      rw [upd_ne (show x ≠ a from fun e => nd.1 (e ▸ hx))]
      exact hb x (by simp [hx])
    refine ⟨B', sm.trans s', fun x hx => ?_, c', .cons (.lst (s' _ _ upd_same) (dpa_same (sm.trans s') h2)) d'⟩
    simp only [List.mem_cons, not_or] at hx
    rw [k' x hx.2, upd_ne hx.1]
/-- an owned list of lists stands still from now on -/
theorem Con.freezeLL (c : Con K B H σ r O) {i : Nat} {b : Bool} {rows : List (List D)} (e : r[i]? = some (Sl.own b (.ll rows))) :
    ∃ B' O' v, σ[i]? = some (some v) ∧ Dq K B' v (.list (rows.map .list)) ∧ Step B H O B' H O' ∧ Con K B' H σ (r.set i (.frz b (.list (rows.map .list)))) O' := by
  obtain ⟨l, F, h1, o, h3⟩ := c.own i b _ e
  obtain ⟨as, rfl, h4, nd, ra⟩ := id o
  have c1 := c.release e h1 o
  simp only [List.nodup_cons] at nd
  have off : ∀ a ∈ l :: as, B a = none := fun a ha => c.off a (h3 a ha)
  obtain ⟨B1, s1, k1, c2, d2⟩ := c1.stillAll ra nd.2 fun a ha => ⟨off a (by simp [ha]), fun z => z.2 (by simp [ha])⟩
  have bl : B1 l = none := by rw [k1 l nd.1]; exact off l (by simp)
  have c3 := c2.still h4 bl (fun h : O l ∧ l ∉ l :: as => h.2 (by simp))
  have dp : Dq K (upd B1 l (.lst (as.map V.ref))) (.ref l) (.list (rows.map .list)) := .lst upd_same (dpa_same (same_new bl) d2)
  refine ⟨upd B1 l (.lst (as.map V.ref)), fun a => O a ∧ a ∉ l :: as, .ref l, h1, dp, ⟨s1.trans (same_new bl), fun _ _ h _ => h, fun _ h => h, fun a q1 q2 q3 => ?_, fun a h => .inl h.1⟩, ?_⟩
  · have hn : a ∉ l :: as := fun z => q2 (h3 a z)
    simp only [List.mem_cons, not_or] at hn
    rw [upd_ne hn.1, k1 a hn.2]
    exact q3
  · have c4 := c3.replace (i := i) (x := .frz b (.list (rows.map .list))) rfl (fun _ _ => rfl) ⟨_, h1, dp⟩ (fun _ _ e => by cases e)
    rw [List.set_set] at c4
    exact c4
/-- shared data is stored in slot i -/
theorem Con.setF (c : Con K B H σ r O) {i : Nat} {b : Bool} {v : V} {d : D} (hi : i < σ.length) (h : Dq K B v d) : Con K B H (σ.set i (some v)) (r.set i (.frz b d)) O :=
  c.replace (x := .frz b d) List.length_set (fun j n => List.getElem?_set_ne (Ne.symm n)) ⟨v, List.getElem?_set_self hi, h⟩ (fun _ _ e => by cases e)
/-- a new object is stored in slot i -/
theorem Con.setN (c : Con K B H σ r O) {H0 : Hp} {i : Nat} {b : Bool} {v : V} {ct : Ct} (hi : i < σ.length) (h : RvR K H0 B H O (.new ct) v) (hal : ∀ rows, ct = .ll rows → noAl r i = true) :
    ∃ F : List Addr, (∀ a ∈ F, H0 a = none ∧ B a = none ∧ ¬ O a) ∧ Con K B H (σ.set i (some v)) (r.set i (.own b ct)) (fun a => O a ∨ a ∈ F) := by
  obtain ⟨l, F, rfl, o, hF⟩ := h
  refine ⟨F, hF, ?_⟩
  have c1 := c.grow (F := F) fun a ha => ⟨(hF a ha).2.1, ownR_some o a ha⟩
  refine c1.replace (x := .own b ct) List.length_set (fun j n => List.getElem?_set_ne (Ne.symm n)) ⟨l, F, List.getElem?_set_self hi, o, fun a ha => .inr ha, fun j b' c' l' F' n e' s' o' a ha hb => ?_⟩ (fun b2 rows e => by cases e; exact hal rows rfl)
  obtain ⟨m, G, g1, g2, g3⟩ := c.own j b' c' e'
  rw [s'] at g1; cases g1
  rw [ownR_uniq o' g2 fun _ _ => rfl] at g3
  exact (hF a ha).2.2 (g3 a hb)
/-- an owned object is changed in place -/
theorem Con.change (c : Con K B H σ r O) {i : Nat} {b : Bool} {ct ct' : Ct} {l : Addr} {F F' : List Addr} (e : r[i]? = some (Sl.own b ct)) (hs : σ[i]? = some (some (V.ref l))) (o : OwnR K B H ct l F)
    (k : ∀ a, a ∉ F → H' a = H a) (o' : OwnR K B H' ct' l F') (hF : ∀ a ∈ F', a ∈ F) (live : ∀ a, H a ≠ none → H' a ≠ none)
    (hal : ∀ rows, ct' = .ll rows → noAl r i = true ∨ (H' l = H l ∧ ∃ rows0, ct = .ll rows0)) : Con K B H' σ (r.set i (.own b ct')) O ∧ Step B H O B H' O := by
  obtain ⟨l0, F0, g1, g2, g3⟩ := c.own i b ct e
  rw [hs] at g1; cases g1
  have hFO : ∀ a ∈ F, O a := fun a ha => by
    rw [ownR_uniq g2 o fun _ _ => rfl] at ha
    exact g3 a ha
  have c1 := (c.release e hs o).toCon0
  have c2 := c1.mono (H' := H') (Same.refl _) (fun a x h => by
    by_cases q : a ∈ F
    · rw [c.off a (hFO a q)] at h; cases h
    · rw [k a q]; exact c.sub a x h) (fun a h => k a h.2) c1.off
  have c3 := c2.grow0 (F := F) fun a ha => ⟨c.off a (hFO a ha), live a (c.liv a (hFO a ha))⟩
  have c4 := c3.replace (i := i) (x := .own b ct') rfl (fun _ _ => rfl) ⟨l, F', hs, o', fun a ha => .inr (hF a ha), fun j b2 c2' l2 F2 n e2 s2 o2 a ha hb => by
    rcases get_set e2 with ⟨_, z⟩ | ⟨n, e2⟩
    · cases z
    · obtain ⟨m, G, q1, q2, q3⟩ := c.own j b2 c2' e2
      rw [s2] at q1; cases q1
      have hz : F2 = G := ownR_uniq q2 o2 fun a ha => k a fun hz => c.sep i j b ct b2 c2' l l2 F G (Ne.symm n) e e2 hs s2 o q2 a hz ha
      subst hz
      exact c.sep i j b ct b2 c2' l l2 F F2 (Ne.symm n) e e2 hs s2 o q2 a (hF a ha) hb⟩
  rw [List.set_set] at c4
  refine ⟨⟨c4.shrink0 (fun a h => ?_) fun j b2 c2' l2 F2 e2 s2 o2 a ha => ?_, fun i2 j k2 h b2 rows l2 as h1 h2 h3 => ?_⟩, ⟨Same.refl _, fun a x h n => ?_, live, fun _ _ _ h => h, fun _ h => .inl h⟩⟩
  · by_cases q : a ∈ F
    · exact .inr q
    · exact .inl ⟨h, q⟩
  · obtain ⟨m, G, q1, q2, q3⟩ := c4.own j b2 c2' e2
    rw [s2] at q1; cases q1
    rw [ownR_uniq o2 q2 fun _ _ => rfl] at q3
    exact (q3 a ha).elim (fun h => h.1) fun h => hFO a h
  · rcases get_set h with ⟨rfl, z⟩ | ⟨n, g⟩
    · cases z
    · rcases get_set h1 with ⟨rfl, z⟩ | ⟨n1, g1⟩
      · cases z
        rw [hs] at h2; cases h2
        rcases hal rows rfl with q | ⟨q, rows0, rfl⟩
        · exact absurd g (noAl_of q)
        · rw [q] at h3
          exact c.al i2 j k2 g b rows0 _ as e hs h3
      · obtain ⟨m, G, q1, q2, q3⟩ := c.own j b2 _ g1
        rw [h2] at q1; cases q1
        rw [k _ (fun hz => c.sep i j b ct b2 _ l _ F G (Ne.symm n1) e g1 hs h2 o q2 _ hz (ownR_mem q2))] at h3
        exact c.al i2 j k2 g b2 rows _ as g1 h2 h3
  · rw [k a fun z => n (hFO a z)]; exact h
end

abbrev Cx.g (X : Cx) : Ct2 := ⟨X.K, X.mg⟩
def DE (X : Cx) (W : WX) (e : Expr) (m : M RV) : Prop := PE X e (tG (Cx.g X) W m (rV (Cx.g X)))
def DO (X : Cx) (W : WX) (e : Expr) (m : M AV) : Prop := PE X e (tG (Cx.g X) W m (rA (Cx.g X)))
def DA (X : Cx) (W : WX) (es : List Expr) (m : M (List AV)) : Prop := PA X es (tG (Cx.g X) W m (rL (Cx.g X)))
def DB (X : Cx) (W : WX) (e : Expr) (m : M Bool) : Prop := PT X e (tG (Cx.g X) W m rB)
theorem pe_weak {X : Cx} {e : Expr} {t t' : TE} (h : PE X e t) (w : ∀ σ H Q, t' σ H Q → t σ H Q) : PE X e t' := ⟨fun pins s σ H Q I q => h.run pins s σ H Q I (w σ H Q q)⟩
theorem pt_weak {X : Cx} {e : Expr} {t t' : TT} (h : PT X e t) (w : ∀ σ H Q, t' σ H Q → t σ H Q) : PT X e t' := ⟨fun pins s σ H Q I q => h.run pins s σ H Q I (w σ H Q q)⟩
theorem pa_weak {X : Cx} {e : List Expr} {t t' : TA} (h : PA X e t) (w : ∀ σ H Q, t' σ H Q → t σ H Q) : PA X e t' := ⟨fun pos pins s σ H Q I q => h.run pos pins s σ H Q I (w σ H Q q)⟩
theorem ps_weak {X : Cx} {e : Stmt} {t t' : TS} (h : PS X e t) (w : ∀ D σ H, t' D σ H → t D σ H) : PS X e t' := ⟨fun pins s σ H D I q => h.run pins s σ H D I (w D σ H q)⟩

theorem bind_assoc {α β γ : Type} (m : M α) (f : α → M β) (k : β → M γ) : (m.bind f).bind k = m.bind fun a => (f a).bind k := by
  funext r
  unfold M.bind
  cases m r with
  | none => rfl
  | some z => obtain ⟨o, r'⟩ := z; cases o <;> rfl
theorem ret_bind {α β : Type} (a : α) (f : α → M β) : (M.ret a).bind f = f a := rfl
theorem mOp_one (g : List Rs → Option RV) (a : M AV) : mOp g [a] = a.bind fun x => mFin g [x] := by
  unfold mOp oL oL
  simp only [bind_assoc, ret_bind]
theorem mOp_two (g : List Rs → Option RV) (a b : M AV) : mOp g [a, b] = a.bind fun x => b.bind fun y => mFin g [x, y] := by
  unfold mOp oL oL oL
  simp only [bind_assoc, ret_bind]

section
variable {X : Cx} {W : WX}
theorem de_const {e : Expr} {v : V} {d : D} (h : PE X e (tC v)) (hd : ∀ B, Dq X.K B v d) : DE X W e (mC d) := pe_weak h fun σ H Q ⟨B, r, O, h⟩ => h.ret (hd B)
theorem de_int {i j pos} : DE X W (.Constant (.int i) j pos) (mC (.int i)) := de_const pe_int fun _ => .int i
theorem de_bl {i j pos} : DE X W (.Constant (.bool i) j pos) (mC (.bool i)) := de_const pe_bl fun _ => .bl i
theorem de_non {j pos} : DE X W (.Constant .none j pos) (mC .none) := de_const pe_non fun _ => .non
theorem de_str {x j pos} : DE X W (.Constant (.str x) j pos) (mC (.str x)) := de_const pe_str fun _ => .str x
theorem bor_set {r : Ro} {σ : L2.St} {i : Nat} {x y : Sl} (h : r[i]? = some x) (hp : pinned x = true → pinned y = true) : Bor r σ (r.set i y) σ := fun j z hz pz => by
  refine ⟨?_, rfl⟩
  by_cases e : j = i
  · subst e
    rw [h] at hz; cases hz
    obtain ⟨hl, _⟩ := List.getElem?_eq_some_iff.mp h
    exact ⟨y, List.getElem?_set_self hl, hp pz⟩
  · exact ⟨z, by rw [List.getElem?_set_ne (Ne.symm e)]; exact hz, pz⟩
/-- the slot i as a value -/
theorem rd_var {i : Nat} {σ : L2.St} {H : Hp} {Q : VK} : tG (Cx.g X) W (mRd i) (rV (Cx.g X)) σ H Q → tVar i σ H Q := fun ⟨B, r, O, c, o, r', e, p⟩ => by
  unfold mRd at e
  split at e
  · rename_i b d q
    cases e
    obtain ⟨v, h1, h2⟩ := c.frz i b d q
    exact ⟨v, h1, p B H O v .refl c .refl h2⟩
  · rename_i b ds q
    cases e
    obtain ⟨B', O', v, h1, h2, s, c'⟩ := c.freeze q
    exact ⟨v, h1, p B' H O' v s c' (bor_set q fun z => z) h2⟩
  · rename_i b rows q
    cases e
    obtain ⟨B', O', v, h1, h2, s, c'⟩ := c.freezeLL q
    exact ⟨v, h1, p B' H O' v s c' (bor_set q fun z => z) h2⟩
  · cases e
theorem de_var {e : Expr} {i : Nat} (h : PE X e (tVar i)) : DE X W e (mRd i) := pe_weak h fun σ H Q => rd_var
/-- the slot i as an operand -/
theorem do_var {e : Expr} {i : Nat} (h : PE X e (tVar i)) : DO X W e (oS i) := pe_weak h fun σ H Q ⟨B, r, O, c, o, r', e, p⟩ => by
  unfold oS at e
  split at e
  · rename_i x q
    cases e
    have : ∃ v, σ[i]? = some (some v) := by
      simp only [look2] at q
      split at q
      · rename_i b d z
        obtain ⟨v, h1, _⟩ := c.frz i b d z
        exact ⟨v, h1⟩
      · rename_i b ct z
        obtain ⟨l, F, h1, _⟩ := c.own i b ct z
        exact ⟨_, h1⟩
      · rename_i j k z
        split at q
        · rename_i b rows z2
          cases z3 : rows[k]? with
          | none => rw [z3] at q; cases q
          | some ds =>
            obtain ⟨l, F, h1, ⟨as, rfl, h2, nd, ra⟩, h3⟩ := c.own j b _ z2
            obtain ⟨a, g1, g2⟩ := c.al i j k z b rows l as z2 h1 h2
            exact ⟨_, g2⟩
        · cases q
      · cases q
    obtain ⟨v, h1⟩ := this
    exact ⟨v, h1, p B H O v .refl c .refl h1⟩
  · cases e
/-- an expression as an operand -/
theorem do_of {e : Expr} {m : M RV} (h : DE X W e m) : DO X W e (oE m) := pe_weak h fun σ H Q ⟨B, r, O, c, o, r', e, p⟩ => by
  refine ⟨B, r, O, c, ?_⟩
  unfold oE M.bind at e
  cases q : m r with
  | none => rw [q] at e; cases e
  | some z =>
    obtain ⟨o1, r1⟩ := z
    rw [q] at e
    refine ⟨o1, r1, rfl, ?_⟩
    cases o1 with
    | exc x => cases e; exact p
    | ok rv =>
      simp only [M.of] at e
      cases qd : rv.data with
      | none => rw [qd] at e; cases e
      | some d =>
        rw [qd] at e
        cases e
        intro B1 H1 O1 v s1 c1 b1 x1
        obtain ⟨B2, s2, c2, dp, _⟩ := c1.frozen s1 x1 qd
        exact p B2 H1 O1 v s2 c2 b1 dp
theorem da_nil : DA X W [] (oL []) := pa_weak pa_nil fun σ H Q ⟨B, r, O, h⟩ => h.ret .nil
theorem da_cons {e : Expr} {es : List Expr} {m : M AV} {ms : List (M AV)} (h : DO X W e m) (t : DA X W es (oL ms)) (hs : starEach (e :: es) X.env = (false, eval e X.env) :: starEach es X.env := by rfl) : DA X W (e :: es) (oL (m :: ms)) := pa_weak (pa_cons h t hs) fun σ H Q ⟨B, r, O, h⟩ => by
  refine tG.of ((h.bind later_rL (R := rA (Cx.g X))).mono ?_)
  rintro x H1 ⟨a, B1, r1, O1, s1, x1, h1⟩
  refine tG.of ((h1.bind later_rL (R := rL (Cx.g X))).mono ?_)
  rintro xs H2 ⟨as, B2, r2, O2, s2, x2, h2⟩
  exact h2.ret (Paired.cons (x1.same s2.sB) x2)
end
end DL
end

section
namespace DL
open PySem
/-- at most so many items -/
def lineD : Nat := 16777216
/-- a place in a row, from the front or (below nought) from behind -/
def ixD (n : Nat) (i : Int) : Option Nat := if 0 ≤ i then (if i < n then some i.toNat else none) else if -(n : Int) ≤ i then some (i + n).toNat else none
def I2 (f : Int → Int → Option D) : List Rs → Option RV
  | [.fz (.int i), .fz (.int j)] => (f i j).map .val
  | _ => none
def gSub : List Rs → Option RV := I2 fun i j => some (.int (i - j))
def gMod : List Rs → Option RV := I2 fun i j => if 0 < j then some (.int (i % j)) else none
def gDiv : List Rs → Option RV := I2 fun i j => if 0 < j ∧ j.natAbs.log2 < 9000 then some (.int (i / j)) else none
def gPow : List Rs → Option RV := I2 fun i j => if 0 ≤ j ∧ j ≤ 1000000 ∧ i.natAbs < 2 ^ 64 then some (.int (i ^ j.toNat)) else none
def gLt : List Rs → Option RV := I2 fun i j => some (.bool (decide (i < j)))
def gGt : List Rs → Option RV := I2 fun i j => some (.bool (decide (j < i)))
def gGe : List Rs → Option RV := I2 fun i j => some (.bool (decide (j ≤ i)))
/-- + -/
def addD : D → D → Option RV
  | .int i, .int j => some (.val (.int (i + j)))
  | .tuple xs, .tuple ys => if xs.length + ys.length ≤ lineD then some (.val (.tuple (xs ++ ys))) else none
  | .list xs, .list ys => if xs.length + ys.length ≤ lineD then some (.new (.lst (xs ++ ys))) else none
  | _, _ => none
def gAdd : List Rs → Option RV
  | [a, b] => match a.data, b.data with
    | some x, some y => addD x y
    | _, _ => none
  | _ => none
/-- * -/
def mulD : D → D → Option RV
  | .int i, .int j => if i.natAbs.log2 + j.natAbs.log2 < 1000000 then some (.val (.int (i * j))) else none
  | .list xs, .int k => if -(2 ^ 63) ≤ k ∧ k < 2 ^ 63 ∧ xs.length * k.toNat ≤ lineD then some (.new (.lst (List.replicate k.toNat xs).flatten)) else none
  | _, _ => none
def gMul : List Rs → Option RV
  | [a, b] => match a.data, b.data with
    | some x, some y => mulD x y
    | _, _ => none
  | _ => none
/-- such data can be compared -/
def okD (d : D) : Bool := d.canLay0 && decide (d.depth ≤ 64)
def gEq : List Rs → Option RV
  | [a, b] => match a.data, b.data with
    | some x, some y => if okD x && okD y then some (.val (.bool (PyData.eqv x y))) else none
    | _, _ => none
  | _ => none
def gNe : List Rs → Option RV
  | [a, b] => match a.data, b.data with
    | some x, some y => if okD x && okD y then some (.val (.bool (!PyData.eqv x y))) else none
    | _, _ => none
  | _ => none
/-- o[i] of lists and tuples -/
def getD : D → D → Option D
  | .list xs, .int i => (ixD xs.length i).bind fun j => xs[j]?
  | .tuple xs, .int i => (ixD xs.length i).bind fun j => xs[j]?
  | _, _ => none
def kyOf : D → Option Ky
  | .int i => some (.inl i)
  | .str x => some (.inr x)
  | _ => none
def gIx : List Rs → Option RV
  | [a, b] => match a.data, b.data with
    | some x, some y => (getD x y).map .val
    | _, _ => none
  | _ => none
def gAbs : List Rs → Option RV
  | [.fz (.int i)] => some (.val (.int (if i < 0 then -i else i)))
  | _ => none
def intsD : List D → Option (List Int)
  | [] => some []
  | .int i :: r => (intsD r).map (i :: ·)
  | _ => none
def gMin2 : List Rs → Option RV := I2 fun i j => some (.int (if j < i then j else i))
def rowOf : D → Option (List D)
  | .list xs => some xs
  | .tuple xs => some xs
  | _ => none
def gList : List Rs → Option RV
  | [a] => (a.data.bind rowOf).map fun xs => .new (.lst xs)
  | _ => none
def gTuple : List Rs → Option RV
  | [a] => (a.data.bind rowOf).map fun xs => .val (.tuple xs)
  | _ => none
def dataAll : List Rs → Option (List D)
  | [] => some []
  | .fz d :: r => (dataAll r).map (d :: ·)
  | .ow _ :: _ => none
/-- (a, b, ..): operands that stand still -/
def gTup (as : List Rs) : Option RV := (dataAll as).bind fun ds => if ds.length ≤ lineD then some (.val (.tuple ds)) else none
def gLst (as : List Rs) : Option RV := (dataAll as).bind fun ds => if ds.length ≤ lineD then some (.new (.lst ds)) else none
def boolV : RV → Option Bool
  | .val (.bool b) => some b
  | _ => none
/-- a test by a value that is True or False -/
def mTst (m : M RV) : M Bool := m.bind fun v => M.of (boolV v)
def mNot (m : M Bool) : M Bool := m.bind fun b => M.ret (!b)
def mAnd (a b : M Bool) : M Bool := a.bind fun x => if x then b else M.ret false
def mOr (a b : M Bool) : M Bool := a.bind fun x => if x then M.ret true else b
/-- a test by truth -/
def mFz (m : M RV) : M D := m.bind fun v => M.of v.data
/-- the values of and, or, not: all but the last are True or False -/
def mAndV (a b : M RV) : M RV := a.bind fun v => match v with
  | .val (.bool true) => b
  | .val (.bool false) => M.ret (.val (.bool false))
  | _ => M.of none
def mNotV (a : M RV) : M RV := a.bind fun v => match v with
  | .val (.bool b) => M.ret (.val (.bool !b))
  | _ => M.of none
end DL
end

section
namespace DL
open PySem PySem.Spec PyProof.Rows L2
theorem line_eq : lineD = sizeLine := by rw [sizeLine_eq]; rfl

section
variable {X : Cx} {W : WX}
def OpD (X : Cx) (f : Value → Value → Sem Value) (g : List Rs → Option RV) : Prop :=
  OpR X f fun x y H Q => ∃ B a b z, Same B H ∧ RsR X.K B H a x ∧ RsR X.K B H b y ∧ g [a, b] = some z ∧ ∀ H' v, Alc X.K B H H' z v → Q v H'
def IxOD (X : Cx) (g : List Rs → Option RV) : Prop :=
  IxR X fun x y H Q => ∃ B a b z, Same B H ∧ RsR X.K B H a x ∧ RsR X.K B H b y ∧ g [a, b] = some z ∧ ∀ H' v, Alc X.K B H H' z v → Q v H'
def CallD (X : Cx) (f : Value) (g : List Rs → Option RV) : Prop :=
  CallR X f fun vs H Q => ∃ B as z, Same B H ∧ Paired (RsR X.K B H) as vs ∧ g as = some z ∧ ∀ H' v, Alc X.K B H H' z v → Q v H'
theorem At.fin {g : List Rs → Option RV} {as : List AV} {B : Hp} {r : Ro} {O : Addr → Prop} {σ : L2.St} {H : Hp} {vs : List V} {Q : VK} (h : At (Cx.g X) W (mFin g as) (rV (Cx.g X)) B r O σ H Q) (x : Paired (AvR X.K B σ) as vs) :
    ∃ xs z, Same B H ∧ Paired (RsR X.K B H) xs vs ∧ g xs = some z ∧ ∀ H' v, Alc X.K B H H' z v → Q v H' := by
  obtain ⟨c, o, r', e, p⟩ := h
  unfold mFin at e
  split at e
  · cases e
  · rename_i xs q
    cases qg : g xs with
    | none => rw [qg] at e; cases e
    | some z =>
      rw [qg] at e
      cases e
      refine ⟨xs, z, c.sub, c.looks2_ q x, qg, fun H' v a => ?_⟩
      obtain ⟨B', s, c', rv⟩ := c.alc a
      exact p B' H' O v s c' .refl rv
theorem At.ofBool {v : RV} {B : Hp} {r : Ro} {O : Addr → Prop} {σ : L2.St} {H H0 : Hp} {y : V} {Q : Bool → Hp → Prop} (h : At (Cx.g X) W (M.of (boolV v)) rB B r O σ H Q) (x : rV (Cx.g X) H0 B H O σ v y) : ∃ k, y = .bl k ∧ Q k H := by
  obtain ⟨c, o, r', e, p⟩ := h
  cases v with
  | val d =>
    cases d with
    | bool b =>
      cases e
      exact ⟨b, dp_bl x, p B H O b .refl c .refl rfl⟩
    | _ => cases e
  | new c => cases e
theorem two_ops {e1 e2 : Expr} {oa ob : M AV} {g : List Rs → Option RV} {σ : L2.St} {H : Hp} {Q : VK} (h : tG (Cx.g X) W (mOp g [oa, ob]) (rV (Cx.g X)) σ H Q) :
    tOp (fun x y H Q => ∃ B a b z, Same B H ∧ RsR X.K B H a x ∧ RsR X.K B H b y ∧ g [a, b] = some z ∧ ∀ H' v, Alc X.K B H H' z v → Q v H') (tG (Cx.g X) W oa (rA (Cx.g X))) (tG (Cx.g X) W ob (rA (Cx.g X))) σ H Q := by
  obtain ⟨B, r, O, h⟩ := h
  rw [mOp_two] at h
  refine tG.of ((h.bind later_rV (R := rA (Cx.g X))).mono ?_)
  rintro x H1 ⟨a, B1, r1, O1, s1, x1, h1⟩
  refine tG.of ((h1.bind later_rV (R := rA (Cx.g X))).mono ?_)
  rintro y H2 ⟨b, B2, r2, O2, s2, x2, h2⟩
  obtain ⟨xs, z, sb, p, hg, q⟩ := h2.fin (.cons (x1.same s2.sB) (.cons x2 .nil))
  cases p with
  | cons p1 p => cases p with
    | cons p2 p =>
      cases p
      exact ⟨B2, _, _, z, sb, p1, p2, hg, q⟩
theorem de_bin {a b : Expr} {op : Operator} {pos : Pos} {g : List Rs → Option RV} {oa ob : M AV} (ho : OpD X (binaryOp op) g) (ha : DO X W a oa) (hb : DO X W b ob) : DE X W (.BinOp a op b pos) (mOp g [oa, ob]) :=
  pe_weak (pe_op ho ha hb) fun σ H Q h => two_ops (e1 := a) (e2 := b) h
theorem de_cmp {a b : Expr} {op : CmpOp} {pos : Pos} {g : List Rs → Option RV} {oa ob : M AV} (ho : OpD X (compareOp op) g) (ha : DO X W a oa) (hb : DO X W b ob) (hm : behindInMarks op b = false) : DE X W (.Compare a [op] [b] pos) (mOp g [oa, ob]) :=
  pe_weak (pe_cmpR ho ha hb hm) fun σ H Q h => two_ops (e1 := a) (e2 := b) h
theorem de_ix {a b : Expr} {pos : Pos} {g : List Rs → Option RV} {oa ob : M AV} (ho : IxOD X g) (ha : DO X W a oa) (hb : DO X W b ob) (hs : PlainIx b) : DE X W (.Subscript a b pos) (mOp g [oa, ob]) :=
  pe_weak (pe_ix ho ha hb hs) fun σ H Q h => two_ops (e1 := a) (e2 := b) h
/-- a test from a comparison -/
theorem db_cmp {a b : Expr} {op : CmpOp} {pos : Pos} {g : List Rs → Option RV} {oa ob : M AV} (ho : OpD X (compareOp op) g) (ha : DO X W a oa) (hb : DO X W b ob) (hm : behindInMarks op b = false) : DB X W (.Compare a [op] [b] pos) (mTst (mOp g [oa, ob])) :=
  pt_weak (pt_cmpR ho ha hb hm) fun σ H Q ⟨B, r, O, h⟩ => by
    refine two_ops (e1 := a) (e2 := b) (tG.of ((h.bind later_rB (R := rV (Cx.g X))).mono ?_))
    rintro y H1 ⟨v, B1, r1, O1, s1, x1, h1⟩
    exact h1.ofBool x1
end
end DL
end

section
namespace DL
open PySem PySem.Spec PyProof.Rows L2

section
variable {K : PySem.W.Frag} {B H : Hp}
/-- a row that is looked at -/
theorem rs_list {a : Rs} {ds : List D} {v : V} (sb : Same B H) (h : RsR K B H a v) (e : a.data = some (.list ds)) : ∃ l vs, v = .ref l ∧ H l = some (.lst vs) ∧ DqAll K B vs ds := by
  cases a with
  | fz d =>
    cases e
    obtain ⟨l, vs, rfl, s, d⟩ := dp_list h
    exact ⟨l, vs, rfl, sb _ _ s, d⟩
  | ow c =>
    cases c with
    | lst es =>
      cases e
      obtain ⟨l, F, rfl, _, vs, e1, d⟩ := h
      exact ⟨l, vs, rfl, e1, d⟩
    | dK _ => cases e
    | dT _ => cases e
    | ll _ => cases e
    | dl _ => cases e
    | tab _ _ => cases e
theorem rs_tuple {a : Rs} {ds : List D} {v : V} (sb : Same B H) (h : RsR K B H a v) (e : a.data = some (.tuple ds)) : ∃ l vs, v = .ref l ∧ TupAt H l vs ∧ DqAll K B vs ds := by
  cases a with
  | fz d =>
    cases e
    obtain ⟨l, vs, rfl, s, d⟩ := dp_tuple h
    exact ⟨l, vs, rfl, tup_same sb s, d⟩
  | ow c => cases c <;> cases e
theorem rs_dp {a : Rs} {d : D} {v : V} (sb : Same B H) (h : RsR K B H a v) (e : a.data = some d) : Dq K H v d := by
  cases a with
  | fz d' => cases e; exact dp_same sb h
  | ow c =>
    cases c with
    | lst es =>
      cases e
      obtain ⟨l, F, rfl, _, vs, e1, d⟩ := h
      exact .lst e1 (dpa_same sb d)
    | dK _ => cases e
    | dT _ => cases e
    | ll _ => cases e
    | dl _ => cases e
    | tab _ _ => cases e
theorem rs_int {a : Rs} {i : Int} {v : V} (h : RsR K B H a v) (e : a.data = some (.int i)) : v = .int i := by
  cases a with
  | fz d => cases e; exact dp_int h
  | ow c => cases c <;> cases e
theorem rs_str {a : Rs} {i : Str} {v : V} (h : RsR K B H a v) (e : a.data = some (.str i)) : v = .str i := by
  cases a with
  | fz d => cases e; exact dp_str h
  | ow c => cases c <;> cases e
theorem alc_val {v : V} {d : D} {Q : VK} (q : ∀ H' v, Alc K B H H' (.val d) v → Q v H') (h : Dq K B v d) : Q v H := q H v (.inl ⟨rfl, h⟩)
theorem alc_tup {vs : List V} {ds : List D} {Q : VK} (q : ∀ H' v, Alc K B H H' (.val (.tuple ds)) v → Q v H') (h : DqAll K B vs ds) (p : Addr) (o : Obj) (hp : H p = none) (ht : TP o) : Q (.ref p) (upd H p (.frz o (.tup vs))) :=
  q _ _ (.inr ⟨p, vs, ds, o, hp, ht, rfl, rfl, h, rfl⟩)
theorem alc_lst {vs : List V} {ds : List D} {Q : VK} (q : ∀ H' v, Alc K B H H' (.new (.lst ds)) v → Q v H') (h : DqAll K B vs ds) (p : Addr) (hp : H p = none) : Q (.ref p) (upd H p (.lst vs)) :=
  q _ _ ⟨p, vs, hp, rfl, h, rfl⟩
end

section
variable {X : Cx} {W : WX}
theorem i2_of {f : Int → Int → Option D} {a b : Rs} {z : RV} (h : I2 f [a, b] = some z) : ∃ i j d, a = .fz (.int i) ∧ b = .fz (.int j) ∧ f i j = some d ∧ z = .val d := by
  unfold I2 at h
  split at h
  · rename_i i j e
    cases e
    cases q : f i j with
    | none => rw [q] at h; cases h
    | some d => rw [q] at h; cases h; exact ⟨i, j, d, rfl, rfl, q, rfl⟩
  · cases h
/-- from a rule on ints -/
theorem opD_int {f : Value → Value → Sem Value} {C : Int → Int → Prop} {g : Int → Int → V} {k : Int → Int → Option D} (ho : OpR X f (rI C g)) (hk : ∀ i j d, k i j = some d → C i j ∧ ∀ B, Dq X.K B (g i j) d) : OpD X f (I2 k) := by
  intro pins s σ H x y v u Q I rx ry ⟨B, a, b, z, sb, r1, r2, hg, q⟩
  obtain ⟨i, j, d, rfl, rfl, e, rfl⟩ := i2_of hg
  obtain ⟨hc, hd⟩ := hk i j d e
  exact ho pins s σ H x y v u Q I rx ry ⟨i, j, dp_int r1, dp_int r2, hc, alc_val q (hd B)⟩
theorem opD_int0 {f : Value → Value → Sem Value} {g : Int → Int → V} {k : Int → Int → Option D} (ho : OpR X f (rI0 g)) (hk : ∀ i j d, k i j = some d → ∀ B, Dq X.K B (g i j) d) : OpD X f (I2 k) := by
  intro pins s σ H x y v u Q I rx ry ⟨B, a, b, z, sb, r1, r2, hg, q⟩
  obtain ⟨i, j, d, rfl, rfl, e, rfl⟩ := i2_of hg
  exact ho pins s σ H x y v u Q I rx ry ⟨i, j, dp_int r1, dp_int r2, alc_val q (hk i j d e B)⟩
theorem od_sub : OpD X (binaryOp .Sub) gSub := opD_int0 op_sub fun i j d e B => by cases e; exact .int _
theorem od_mod : OpD X (binaryOp .Mod) gMod := opD_int op_mod fun i j d e => by
  split at e
  · rename_i h; cases e; exact ⟨h, fun B => .int _⟩
  · cases e
theorem od_div : OpD X (binaryOp .FloorDiv) gDiv := opD_int op_fdivW fun i j d e => by
  split at e
  · rename_i h; cases e; exact ⟨h, fun B => .int _⟩
  · cases e
theorem od_pow : OpD X (binaryOp .Pow) gPow := opD_int op_pow fun i j d e => by
  split at e
  · rename_i h; cases e; exact ⟨h, fun B => .int _⟩
  · cases e
theorem od_lt : OpD X (compareOp .Lt) gLt := opD_int0 op_lt fun i j d e B => by cases e; exact .bl _
theorem od_gt : OpD X (compareOp .Gt) gGt := opD_int0 op_gt fun i j d e B => by cases e; exact .bl _
theorem od_ge : OpD X (compareOp .GtE) gGe := opD_int0 op_ge fun i j d e B => by cases e; exact .bl _
theorem g2_of {f : D → D → Option RV} {a b : Rs} {z : RV} (h : (match a.data, b.data with | some x, some y => f x y | _, _ => none) = some z) : ∃ x y, a.data = some x ∧ b.data = some y ∧ f x y = some z := by
  split at h
  · rename_i x y e1 e2; exact ⟨x, y, e1, e2, h⟩
  · cases h
theorem od_add : OpD X (binaryOp .Add) gAdd := by
  intro pins s σ H x y v u Q I rx ry ⟨B, a, b, z, sb, r1, r2, hg, q⟩
  obtain ⟨d, e, h1, h2, hf⟩ := g2_of hg
  unfold addD at hf
  split at hf
  · cases hf
    exact op_add pins s σ H x y v u Q I rx ry ⟨_, _, rs_int r1 h1, rs_int r2 h2, alc_val q (.int _)⟩
  · rename_i xs ys
    split at hf
    · rename_i hl
      cases hf
      obtain ⟨l, vs, rfl, s1, d1⟩ := rs_tuple sb r1 h1
      obtain ⟨m, ws, rfl, s2, d2⟩ := rs_tuple sb r2 h2
      refine fop_cat pins s σ H _ _ v u Q I rx ry ⟨l, m, vs, ws, rfl, rfl, s1.sq, s2.sq, by rw [d1.length, d2.length, ← line_eq]; exact hl, fun e => ?_, fun _ e => ?_, fun _ _ => alc_tup q (d1.append d2)⟩
      · subst e
        cases d1
        cases b with
        | fz d' => cases h2; exact alc_val q r2
        | ow c => cases c <;> cases h2
      · subst e
        cases d2
        rw [List.append_nil] at q
        cases a with
        | fz d' => cases h1; exact alc_val q r1
        | ow c => cases c <;> cases h1
    · cases hf
  · rename_i xs ys
    split at hf
    · rename_i hl
      cases hf
      obtain ⟨l, vs, rfl, s1, d1⟩ := rs_list sb r1 h1
      obtain ⟨m, ws, rfl, s2, d2⟩ := rs_list sb r2 h2
      exact op_cat pins s σ H _ _ v u Q I rx ry ⟨l, m, vs, ws, rfl, rfl, s1, s2, by rw [d1.length, d2.length, ← line_eq]; exact hl, alc_lst q (d1.append d2)⟩
    · cases hf
  · cases hf
theorem DqAll.rep {K : PySem.W.Frag} {H : Hp} {vs : List V} {ds : List D} (h : DqAll K H vs ds) : ∀ k : Nat, DqAll K H (List.replicate k vs).flatten (List.replicate k ds).flatten
  | 0 => .nil
  | k + 1 => by
    rw [List.replicate_succ, List.replicate_succ, List.flatten_cons, List.flatten_cons]
    exact h.append (DqAll.rep h k)
theorem od_mul : OpD X (binaryOp .Mult) gMul := by
  intro pins s σ H x y v u Q I rx ry ⟨B, a, b, z, sb, r1, r2, hg, q⟩
  obtain ⟨d, e, h1, h2, hf⟩ := g2_of hg
  unfold mulD at hf
  split at hf
  · split at hf
    · rename_i hc
      cases hf
      exact op_mulW pins s σ H x y v u Q I rx ry ⟨_, _, rs_int r1 h1, rs_int r2 h2, hc, alc_val q (.int _)⟩
    · cases hf
  · rename_i xs k
    split at hf
    · rename_i hc
      cases hf
      obtain ⟨l, vs, rfl, s1, d1⟩ := rs_list sb r1 h1
      exact op_rep pins s σ H _ y v u Q I rx ry ⟨l, k, vs, rfl, rs_int r2 h2, s1, hc.1, hc.2.1, by rw [d1.length, ← line_eq]; exact hc.2.2, alc_lst q (d1.rep k.toNat)⟩
    · cases hf
  · cases hf
theorem okD_shaped {d : D} (h : okD d = true) : SeqAt.shaped d = true := h
theorem okD_lay {d : D} (h : okD d = true) : d.canLay0 = true := (Bool.and_eq_true_iff.mp h).1
theorem od_eq (hu : X.A.units + 64 < cLine) : OpD X (compareOp .Eq) gEq := by
  intro pins s σ H x y v u Q I rx ry ⟨B, a, b, z, sb, r1, r2, hg, q⟩
  obtain ⟨d, e, h1, h2, hf⟩ := g2_of hg
  split at hf
  · rename_i hc
    cases hf
    obtain ⟨k1, k2⟩ := Bool.and_eq_true_iff.mp hc
    exact op_eqD hu pins s σ H x y v u Q I rx ry ⟨d, e, dq_dp (rs_dp sb r1 h1) (okD_lay k1), dq_dp (rs_dp sb r2 h2) (okD_lay k2), okD_shaped k1, okD_shaped k2, alc_val q (.bl _)⟩
  · cases hf
theorem od_ne (hu : X.A.units + 64 < cLine) : OpD X (compareOp .NotEq) gNe := by
  intro pins s σ H x y v u Q I rx ry ⟨B, a, b, z, sb, r1, r2, hg, q⟩
  obtain ⟨d, e, h1, h2, hf⟩ := g2_of hg
  split at hf
  · rename_i hc
    cases hf
    obtain ⟨k1, k2⟩ := Bool.and_eq_true_iff.mp hc
    exact op_neD hu pins s σ H x y v u Q I rx ry ⟨d, e, dq_dp (rs_dp sb r1 h1) (okD_lay k1), dq_dp (rs_dp sb r2 h2) (okD_lay k2), okD_shaped k1, okD_shaped k2, alc_val q (.bl _)⟩
  · cases hf
theorem cd_abs : CallD X (.builtin "abs") gAbs := by
  intro pins s σ H vs us Q I r ⟨B, as, z, sb, p, hg, q⟩
  unfold gAbs at hg
  split at hg
  · cases hg
    cases p with
    | cons p1 p =>
      cases p
      cases dp_int p1
      exact call_abs pins s σ H _ us Q I r ⟨_, rfl, alc_val q (.int _)⟩
  · cases hg
theorem cd_i2 {f : Value} {k : Int → Int → Option D} {g : Int → Int → Int} (ho : CallR X f (fun xs H Q => ∃ i j, xs = [.int i, .int j] ∧ Q (.int (g i j)) H)) (hk : ∀ i j d, k i j = some d → d = .int (g i j)) : CallD X f (I2 k) := by
  intro pins s σ H vs us Q I r ⟨B, as, z, sb, p, hg, q⟩
  unfold I2 at hg
  split at hg
  · rename_i i j
    cases e : k i j with
    | none => rw [e] at hg; cases hg
    | some d =>
      rw [e] at hg
      cases hg
      have := hk i j d e
      subst this
      cases p with
      | cons p1 p =>
        cases p with
        | cons p2 p =>
          cases p
          cases dp_int p1
          cases dp_int p2
          exact ho pins s σ H _ us Q I r ⟨i, j, rfl, alc_val q (.int _)⟩
  · cases hg
theorem cd_min2 (hc : X.calm = true) : CallD X (.builtin "min") gMin2 := cd_i2 (call_min2 hc) fun i j d e => by cases e; rfl
theorem row_of {d : D} {xs : List D} (h : rowOf d = some xs) : d = .list xs ∨ d = .tuple xs := by
  cases d <;> first | (cases h; first | exact .inl rfl | exact .inr rfl) | cases h
theorem cd_list : CallD X (.type "list") gList := by
  intro pins s σ H vs us Q I r ⟨B, as, z, sb, p, hg, q⟩
  unfold gList at hg
  split at hg
  · rename_i a
    cases e : a.data.bind rowOf with
    | none => rw [e] at hg; cases hg
    | some xs =>
      rw [e] at hg
      cases hg
      obtain ⟨d, e1, e2⟩ := Option.bind_eq_some_iff.mp e
      cases p with
      | cons p1 p =>
        cases p
        rcases row_of e2 with rfl | rfl
        · obtain ⟨l, vs, rfl, s1, d1⟩ := rs_list sb p1 e1
          exact call_list_of pins s σ H _ us Q I r ⟨l, vs, rfl, .inl (.of s1), alc_lst q d1⟩
        · obtain ⟨l, vs, rfl, s1, d1⟩ := rs_tuple sb p1 e1
          exact call_list_of pins s σ H _ us Q I r ⟨l, vs, rfl, .inr s1.sq, alc_lst q d1⟩
  · cases hg
theorem cd_tuple : CallD X (.type "tuple") gTuple := by
  intro pins s σ H vs us Q I r ⟨B, as, z, sb, p, hg, q⟩
  unfold gTuple at hg
  split at hg
  · rename_i a
    cases e : a.data.bind rowOf with
    | none => rw [e] at hg; cases hg
    | some xs =>
      rw [e] at hg
      cases hg
      obtain ⟨d, e1, e2⟩ := Option.bind_eq_some_iff.mp e
      cases p with
      | cons p1 p =>
        cases p
        rcases row_of e2 with rfl | rfl
        · obtain ⟨l, vs, rfl, s1, d1⟩ := rs_list sb p1 e1
          exact fcall_tuple pins s σ H _ us Q I r ⟨l, vs, rfl, .inl ⟨.of s1, alc_tup q d1⟩⟩
        · obtain ⟨l, vs, rfl, s1, d1⟩ := rs_tuple sb p1 e1
          refine fcall_tuple pins s σ H _ us Q I r ⟨l, vs, rfl, .inr ⟨s1.sq, ?_⟩⟩
          cases a with
          | fz d' => cases e1; exact alc_val q p1
          | ow c => cases c <;> cases e1
  · cases hg
theorem ixd_get : IxOD X gIx := by
  intro value slice pins s σ H x y v u Q I rx ry ⟨B, a, b, z, sb, r1, r2, hg, q⟩ hs
  obtain ⟨d, e, h1, h2, hf⟩ := g2_of hg
  cases hz : getD d e with
  | none => rw [hz] at hf; cases hf
  | some w =>
    rw [hz] at hf
    cases hf
    unfold getD at hz
    split at hz
    · rename_i xs i
      obtain ⟨j, e1, e2⟩ := Option.bind_eq_some_iff.mp hz
      obtain ⟨l, vs, rfl, s1, d1⟩ := rs_list sb r1 h1
      obtain ⟨v', e3, e4⟩ := d1.get e2
      refine ix_list value slice pins s σ H _ y v u Q I rx ry ⟨l, vs, i, v', rfl, rs_int r2 h2, .of s1, ?_, alc_val q e4⟩ hs
      unfold atI
      rw [d1.length, show ixN xs.length i = some j from e1]
      exact e3
    · rename_i xs i
      obtain ⟨j, e1, e2⟩ := Option.bind_eq_some_iff.mp hz
      obtain ⟨l, vs, rfl, s1, d1⟩ := rs_tuple sb r1 h1
      obtain ⟨v', e3, e4⟩ := d1.get e2
      refine ix_tup value slice pins s σ H _ y v u Q I rx ry ⟨l, vs, i, v', rfl, rs_int r2 h2, s1.sq, ?_, alc_val q e4⟩ hs
      unfold atI
      rw [d1.length, show ixN xs.length i = some j from e1]
      exact e3
    · cases hz
end
end DL
end

section
namespace DL
open PySem PySem.Spec PyProof.Rows L2
section
variable {X : Cx} {W : WX}
def DW (X : Cx) (W : WX) (e : Expr) (m : M Bool) : Prop := PW X e (tG (Cx.g X) W m rB)
theorem pw_weak {e : Expr} {t t' : TT} (h : PW X e t) (w : ∀ σ H Q, t' σ H Q → t σ H Q) : PW X e t' := ⟨fun whole pins s σ H Q I q => h.run whole pins s σ H Q I (w σ H Q q)⟩
theorem db_not {a : Expr} {pos : Pos} {m : M Bool} (h : DB X W a m) : DB X W (.UnaryOp .Not a pos) (mNot m) := pt_weak (pt_not h) fun σ H Q ⟨B, r, O, h⟩ => by
  refine tG.of ((h.bind later_rB (R := rB)).mono ?_)
  rintro y H1 ⟨v, B1, r1, O1, s1, x1, h1⟩
  cases x1
  exact h1.ret rfl
theorem dw_and1 {a : Expr} {pos : Pos} {m : M Bool} (h : DB X W a m) : DW X W (.BoolOp .And [a] pos) m := pw_and1 h
theorem dw_or1 {a : Expr} {pos : Pos} {m : M Bool} (h : DB X W a m) : DW X W (.BoolOp .Or [a] pos) m := pw_or1 h
theorem dw_and {a b : Expr} {es : List Expr} {pos : Pos} {m n : M Bool} (h : DB X W a m) (t : DW X W (.BoolOp .And (b :: es) pos) n) : DW X W (.BoolOp .And (a :: b :: es) pos) (mAnd m n) := pw_weak (pw_and h t) fun σ H Q ⟨B, r, O, h⟩ => by
  refine tG.of ((h.bind later_rB (R := rB)).mono ?_)
  rintro y H1 ⟨v, B1, r1, O1, s1, x1, h1⟩
  cases x1
  cases y with
  | true => exact iteT (tG.of h1)
  | false => exact iteF (h1.ret rfl)
theorem dw_or {a b : Expr} {es : List Expr} {pos : Pos} {m n : M Bool} (h : DB X W a m) (t : DW X W (.BoolOp .Or (b :: es) pos) n) : DW X W (.BoolOp .Or (a :: b :: es) pos) (mOr m n) := pw_weak (pw_or h t) fun σ H Q ⟨B, r, O, h⟩ => by
  refine tG.of ((h.bind later_rB (R := rB)).mono ?_)
  rintro y H1 ⟨v, B1, r1, O1, s1, x1, h1⟩
  cases x1
  cases y with
  | true => exact iteT (h1.ret rfl)
  | false => exact iteF (tG.of h1)
theorem db_w {e : Expr} {m : M Bool} (h : DW X W e m) : DB X W e m := PW.pt h
/-- an expression that gives True or False, as a test -/
theorem db_val {e : Expr} {m : M RV} (h : DE X W e m) (he : ∀ whole, isTrue e X.env whole = (do let v ← whole; standAt e.pos; holding [v] (truthy v)) := by intro _; rfl) : DB X W e (mTst m) := pt_weak (pt_val h he) fun σ H Q ⟨B, r, O, h⟩ => by
  refine tG.of ((h.bind later_rB (R := rV (Cx.g X))).mono ?_)
  rintro y H1 ⟨v, B1, r1, O1, s1, x1, h1⟩
  exact h1.ofBool x1
def rD (G : Ct2) : Rl D V := fun _ B' _ _ _ d v => Dq G.K B' v d
/-- a result that stands still from now on -/
theorem At.froz {m : M RV} {B : Hp} {r : Ro} {O : Addr → Prop} {σ : L2.St} {H : Hp} {Q : VK} (h : At (Cx.g X) W (mFz m) (rD (Cx.g X)) B r O σ H Q) : At (Cx.g X) W m (rV (Cx.g X)) B r O σ H Q := by
  obtain ⟨c, o, r', e, p⟩ := h
  refine ⟨c, ?_⟩
  unfold mFz M.bind at e
  cases q : m r with
  | none => rw [q] at e; cases e
  | some z =>
    obtain ⟨o1, r1⟩ := z
    rw [q] at e
    refine ⟨o1, r1, rfl, ?_⟩
    cases o1 with
    | exc x => cases e; exact p
    | ok rv =>
      simp only [M.of] at e
      cases qd : rv.data with
      | none => rw [qd] at e; cases e
      | some d =>
        rw [qd] at e
        cases e
        intro B1 H1 O1 v s1 c1 b1 x1
        obtain ⟨B2, s2, c2, dp, _⟩ := c1.frozen s1 x1 qd
        exact p B2 H1 O1 v s2 c2 b1 dp
theorem At.no {α β : Type} {R : Rl α β} {B : Hp} {r : Ro} {O : Addr → Prop} {σ : L2.St} {H : Hp} {Q : β → Hp → Prop} (h : At (Cx.g X) W (M.of none) R B r O σ H Q) : False := by
  obtain ⟨c, o, r', e, p⟩ := h
  cases e
theorem bool_of {v : RV} : (∃ b, v = .val (.bool b)) ∨ ∀ b, v ≠ .val (.bool b) := by
  cases v with
  | val d => cases d with
    | bool b => exact .inl ⟨b, rfl⟩
    | _ => exact .inr fun b e => by cases e
  | new c => exact .inr fun b e => by cases e
theorem de_one {a : Expr} {op : BoolOp} {pos : Pos} {m : M RV} (h : DE X W a m) : DE X W (.BoolOp op [a] pos) m := pe_one h
theorem de_and {a b : Expr} {es : List Expr} {pos : Pos} {m n : M RV} (h : DE X W a m) (t : DE X W (.BoolOp .And (b :: es) pos) n) : DE X W (.BoolOp .And (a :: b :: es) pos) (mAndV m n) := pe_weak (pe_and h t) fun σ H Q ⟨B, r, O, h⟩ => by
  refine tG.of ((h.bind later_rV (R := rV (Cx.g X))).mono ?_)
  rintro y H1 ⟨v, B1, r1, O1, s1, x1, h1⟩
  rcases bool_of (v := v) with ⟨b, rfl⟩ | n
  · cases dp_bl x1
    cases b with
    | true => exact ⟨true, rfl, iteT (tG.of h1)⟩
    | false => exact ⟨false, rfl, iteF (h1.ret (.bl _))⟩
  · split at h1
    · exact absurd rfl (n _)
    · exact absurd rfl (n _)
    · exact h1.no.elim
theorem de_not {a : Expr} {pos : Pos} {m : M RV} (h : DE X W a m) : DE X W (.UnaryOp .Not a pos) (mNotV m) := pe_weak (pe_not h) fun σ H Q ⟨B, r, O, h⟩ => by
  refine tG.of ((h.bind later_rV (R := rV (Cx.g X))).mono ?_)
  rintro y H1 ⟨v, B1, r1, O1, s1, x1, h1⟩
  rcases bool_of (v := v) with ⟨b, rfl⟩ | n
  · cases dp_bl x1
    exact ⟨b, rfl, h1.ret (.bl _)⟩
  · split at h1
    · exact absurd rfl (n _)
    · exact h1.no.elim
theorem dataAll_of {K : PySem.W.Frag} {B H : Hp} : ∀ {as : List Rs} {ds : List D} {vs : List V}, dataAll as = some ds → Paired (RsR K B H) as vs → DqAll K B vs ds
  | [], _, _, h, p => by cases h; cases p; exact .nil
  | .fz d :: as, ds, _, h, p => by
    cases p with
    | cons p1 p =>
      cases q : dataAll as with
      | none => simp only [dataAll, q] at h; cases h
      | some es =>
        simp only [dataAll, q] at h
        cases h
        exact .cons p1 (dataAll_of q p)
  | .ow c :: as, ds, _, h, p => by cases h
theorem At.ops {ms : List (M AV)} {g : List Rs → Option RV} {B : Hp} {r : Ro} {O : Addr → Prop} {σ : L2.St} {H : Hp} {Q : VK} (h : At (Cx.g X) W (mOp g ms) (rV (Cx.g X)) B r O σ H Q) :
    At (Cx.g X) W (oL ms) (rL (Cx.g X)) B r O σ H fun vs H1 => ∃ B1 xs z, Same B1 H1 ∧ Paired (RsR X.K B1 H1) xs vs ∧ g xs = some z ∧ ∀ H' v, Alc X.K B1 H1 H' z v → Q v H' := by
  refine (h.bind later_rV (R := rL (Cx.g X))).mono ?_
  rintro vs H1 ⟨as, B1, r1, O1, s1, x1, h1⟩
  obtain ⟨xs, z, sb, p, hg, q⟩ := h1.fin x1
  exact ⟨B1, xs, z, sb, p, hg, q⟩
theorem de_tup {es : List Expr} {x1 : Nat} {pos : Pos} {ms : List (M AV)} (h : DA X W es (oL ms)) : DE X W (.Tuple es x1 pos) (mOp gTup ms) := pe_weak (fe_tup h) fun σ H Q ⟨B, r, O, h⟩ => by
  refine tG.of (h.ops.mono ?_)
  rintro vs H1 ⟨B1, xs, z, sb, p, hg, q⟩
  unfold gTup at hg
  obtain ⟨ds, e1, e2⟩ := Option.bind_eq_some_iff.mp hg
  split at e2
  · rename_i hl
    cases e2
    have d := dataAll_of e1 p
    exact ⟨by rw [d.length, ← line_eq]; exact hl, alc_tup q d⟩
  · cases e2
theorem de_lst {es : List Expr} {pos : Pos} {ms : List (M AV)} (h : DA X W es (oL ms)) : DE X W (.List es pos) (mOp gLst ms) := pe_weak (pe_lst h) fun σ H Q ⟨B, r, O, h⟩ => by
  refine tG.of (h.ops.mono ?_)
  rintro vs H1 ⟨B1, xs, z, sb, p, hg, q⟩
  unfold gLst at hg
  obtain ⟨ds, e1, e2⟩ := Option.bind_eq_some_iff.mp hg
  split at e2
  · rename_i hl
    cases e2
    have d := dataAll_of e1 p
    exact ⟨by rw [d.length, ← line_eq]; exact hl, alc_lst q d⟩
  · cases e2
theorem de_cb {id : String} {g : List Rs → Option RV} {x : Str} {p pos : Pos} {e : Expr} {es : List Expr} {ms : List (M AV)} (hc : CallD X (.builtin id) g) (hg : Gl X x) (hm : X.mg x = none) (hv : bootBuiltins x = some (.builtin id)) (ha : DA X W (e :: es) (oL ms))
    (hn : x ≠ "__name__" := by decide) (hdb : (x == ("__debug__" : Str)) = false := by decide)
    (he : starEach (e :: es) X.env = (false, eval e X.env) :: starEach es X.env := by rfl) (hpl : (backTo pos (starEach es X.env)).any (·.1) = false := by rfl) : DE X W (.Call (.Name x p) (e :: es) [] pos) (mOp g ms) :=
  pe_weak (pe_callB hc hg hm hv ha hn hdb he hpl) fun σ H Q ⟨B, r, O, h⟩ => tG.of (h.ops)
theorem de_ct {T : String} {g : List Rs → Option RV} {x : Str} {p pos : Pos} {e : Expr} {es : List Expr} {ms : List (M AV)} (hc : CallD X (.type T) g) (hg : Gl X x) (hm : X.mg x = none) (hv : bootBuiltins x = some (.type T)) (ha : DA X W (e :: es) (oL ms))
    (hn : x ≠ "__name__" := by decide) (hdb : (x == ("__debug__" : Str)) = false := by decide)
    (he : starEach (e :: es) X.env = (false, eval e X.env) :: starEach es X.env := by rfl) (hpl : (backTo pos (starEach es X.env)).any (·.1) = false := by rfl) : DE X W (.Call (.Name x p) (e :: es) [] pos) (mOp g ms) :=
  pe_weak (pe_callTy hc hg hm hv ha hn hdb he hpl) fun σ H Q ⟨B, r, O, h⟩ => tG.of (h.ops)
end
end DL
end

section
namespace DL
open PySem
/-- what a def does: its arguments (an owned one is lent); the answer, the arguments behind it -/
abbrev Sem := List Rs → Option (EO RV × List Rs)
def toSl : Rs → Sl
  | .fz d => .frz false d
  | .ow c => .own true c
def backSl (b : Bool) : Rs → Sl
  | .fz d => .frz b d
  | .ow c => .own b c
def exitSl : Rs → Rs → Sl
  | .fz d, _ => .frz false d
  | .ow _, y => backSl true y
def ownIx : List AV → List Rs → List Nat
  | .slot i :: as, .ow _ :: xs => i :: ownIx as xs
  | _ :: as, _ :: xs => ownIx as xs
  | _, _ => []
def put1 (r : Ro) (i : Nat) (y : Rs) : Ro := match r[i]? with
  | some (.own b _) => r.set i (backSl b y)
  | _ => r
def putBack : Ro → List AV → List Rs → List Rs → Ro
  | r, .slot i :: as, .ow _ :: xs, y :: ys => putBack (put1 r i y) as xs ys
  | r, _ :: as, _ :: xs, _ :: ys => putBack r as xs ys
  | r, _, _, _ => r
def mCall (f : Sem) (ms : List (M AV)) : M RV := (oL ms).bind fun as => fun r => match looks r as with
  | none => none
  | some xs => if (ownIx as xs).Nodup ∧ (ownIx as xs).all (noAl r) = true then match f xs with
      | some (o, ys) => if ys.length = xs.length then some (o, putBack r as xs ys) else none
      | none => none
    else none
/-- a statement's end -/
inductive SO where
  | nx
  | ret (v : RV)
  /-- what slot i holds, with all that it owns -/
  | rets (i : Nat)
  | brk
  | cnt
  | exc (x : Exn)
def S := Ro → Option (SO × Ro)
def sNx : S := fun r => some (.nx, r)
def sSeq (a b : S) : S := fun r => match a r with
  | some (.nx, r') => b r'
  | z => z
def sEx {α : Type} (m : M α) (k : α → S) : S := fun r => match m r with
  | none => none
  | some (.ok a, r') => k a r'
  | some (.exc x, r') => some (.exc x, r')
def sRet (m : M RV) : S := sEx m fun v r => some (.ret v, r)
def sIf (t : M Bool) (a b : S) : S := sEx t fun c => if c then a else b
def sDrop (m : M RV) : S := sEx m fun _ => sNx
/-- the slot i gets a result; a lent parameter's slot can't be stored to -/
def putSl (i : Nat) (v : RV) : S := fun r => match r[i]? with
  | none => none
  | some x => if pinnedB x then none else match v with
      | .val d => some (.nx, r.set i (.frz false d))
      | .new (.ll rows) => if noAl r i then some (.nx, r.set i (.own false (.ll rows))) else none
      | .new c => some (.nx, r.set i (.own false c))
where pinnedB : Sl → Bool
  | .frz b _ => b
  | .own b _ => b
  | .non => false
  | .al _ _ => false
def sSet (i : Nat) (m : M RV) : S := sEx m (putSl i)
def outs : List Rs → Nat → Ro → List Rs
  | [], _, _ => []
  | .fz d :: xs, k, r => .fz d :: outs xs (k + 1) r
  | .ow c :: xs, k, r => (match r[k]? with
      | some (.own _ c') => .ow c'
      | some (.frz _ d) => .fz d
      | _ => .ow c) :: outs xs (k + 1) r
def allFz : List Rs → Bool
  | [] => true
  | .fz _ :: xs => allFz xs
  | .ow _ :: _ => false
/-- an object handed on: only where no object was lent -/
def handOn (xs : List Rs) (i : Nat) (r : Ro) : Option (EO RV × List Rs) := match r[i]? with
  | some (.own false c) => if allFz xs = true then some (.ok (.new c), outs xs 0 (r.set i .non)) else none
  | _ => none
/-- a def of n parameters and N names by its body -/
def defSem (n N : Nat) (body : S) : Sem := fun xs => if xs.length = n then match body (xs.map toSl ++ List.replicate (N - n) .non) with
    | some (.ret v, r) => some (.ok v, outs xs 0 r)
    | some (.rets i, r) => handOn xs i r
    | some (.nx, r) => some (.ok (.val .none), outs xs 0 r)
    | some (.exc x, r) => some (.exc x, outs xs 0 r)
    | _ => none
  else none
end DL
end

section
namespace DL
open PySem PySem.Spec PyProof.Rows L2
theorem put1_ne {r : Ro} {i j : Nat} {y : Rs} (h : j ≠ i) : (put1 r i y)[j]? = r[j]? := by
  unfold put1
  split
  · exact List.getElem?_set_ne (Ne.symm h)
  · rfl
theorem put1_at {r : Ro} {i : Nat} {y : Rs} {b : Bool} {c : Ct} (h : r[i]? = some (Sl.own b c)) : (put1 r i y)[i]? = some (backSl b y) := by
  unfold put1
  rw [h]
  obtain ⟨hl, _⟩ := List.getElem?_eq_some_iff.mp h
  exact List.getElem?_set_self hl
theorem put1_len {r : Ro} {i : Nat} {y : Rs} : (put1 r i y).length = r.length := by
  unfold put1
  split <;> simp
theorem ownIx_mem : ∀ {as : List AV} {xs : List Rs} {k i : Nat} {c : Ct}, as[k]? = some (AV.slot i) → xs[k]? = some (Rs.ow c) → i ∈ ownIx as xs
  | [], _, _, _, _, h, _ => by simp at h
  | _ :: _, [], _, _, _, _, h => by simp at h
  | a :: as, x :: xs, 0, i, c, h, g => by
    simp at h g
    subst h g
    simp [ownIx]
  | a :: as, x :: xs, k + 1, i, c, h, g => by
    have := ownIx_mem (as := as) (xs := xs) (k := k) (i := i) (c := c) (by simpa using h) (by simpa using g)
    cases a <;> cases x <;> simp [ownIx, this]
theorem ownIx_of : ∀ {as : List AV} {xs : List Rs} {i : Nat}, i ∈ ownIx as xs → ∃ (k : Nat) (c : Ct), as[k]? = some (AV.slot i) ∧ xs[k]? = some (Rs.ow c)
  | [], _, _, h => by simp [ownIx] at h
  | a :: as, [], _, h => by cases a <;> simp [ownIx] at h
  | a :: as, x :: xs, i, h => by
    have rc : i ∈ ownIx as xs → ∃ (k : Nat) (c : Ct), (a :: as)[k]? = some (AV.slot i) ∧ (x :: xs)[k]? = some (Rs.ow c) := fun h => by
      obtain ⟨k, c, h1, h2⟩ := ownIx_of h
      exact ⟨k + 1, c, by simpa using h1, by simpa using h2⟩
    cases a with
    | val d => exact rc (by cases x <;> simpa [ownIx] using h)
    | slot j =>
      cases x with
      | fz d => exact rc (by simpa [ownIx] using h)
      | ow c =>
        simp only [ownIx, List.mem_cons] at h
        rcases h with rfl | h
        · exact ⟨0, c, rfl, rfl⟩
        · exact rc h
theorem putBack_len : ∀ {as : List AV} {xs ys : List Rs} {r : Ro}, (putBack r as xs ys).length = r.length
  | [], _, _, r => by simp [putBack]
  | a :: as, [], _, r => by cases a <;> simp [putBack]
  | a :: as, x :: xs, [], r => by cases a <;> cases x <;> simp [putBack]
  | a :: as, x :: xs, y :: ys, r => by
    cases a <;> cases x <;> simp only [putBack] <;> rw [putBack_len] <;> exact put1_len
theorem putBack_out : ∀ {as : List AV} {xs ys : List Rs} {r : Ro} {j : Nat}, j ∉ ownIx as xs → (putBack r as xs ys)[j]? = r[j]?
  | [], _, _, r, j, _ => by simp [putBack]
  | a :: as, [], _, r, j, _ => by cases a <;> simp [putBack]
  | a :: as, x :: xs, [], r, j, _ => by cases a <;> cases x <;> simp [putBack]
  | a :: as, x :: xs, y :: ys, r, j, h => by
    cases a with
    | val d => cases x <;> exact putBack_out (as := as) (xs := xs) (ys := ys) (by simpa [ownIx] using h)
    | slot i =>
      cases x with
      | fz d => exact putBack_out (as := as) (xs := xs) (ys := ys) (by simpa [ownIx] using h)
      | ow c =>
        simp only [ownIx, List.mem_cons, not_or] at h
        show (putBack (put1 r i y) as xs ys)[j]? = _
        rw [putBack_out (as := as) (xs := xs) (ys := ys) h.2, put1_ne h.1]
theorem putBack_in : ∀ {as : List AV} {xs ys : List Rs} {r : Ro} {k i : Nat} {c c0 : Ct} {y : Rs} {b : Bool}, (ownIx as xs).Nodup → as[k]? = some (AV.slot i) → xs[k]? = some (Rs.ow c) → ys[k]? = some y → r[i]? = some (Sl.own b c0) →
    (putBack r as xs ys)[i]? = some (backSl b y)
  | [], _, _, _, _, _, _, _, _, _, _, h, _, _, _ => by simp at h
  | _ :: _, [], _, _, _, _, _, _, _, _, _, _, h, _, _ => by simp at h
  | _ :: _, _ :: _, [], _, _, _, _, _, _, _, _, _, _, h, _ => by simp at h
  | a :: as, x :: xs, z :: ys, r, 0, i, c, c0, y, b, nd, h1, h2, h3, h4 => by
    simp at h1 h2 h3
    subst h1 h2 h3
    simp only [ownIx, List.nodup_cons] at nd
    show (putBack (put1 r i z) as xs ys)[i]? = _
    rw [putBack_out nd.1]
    exact put1_at h4
  | a :: as, x :: xs, z :: ys, r, k + 1, i, c, c0, y, b, nd, h1, h2, h3, h4 => by
    have h1' : as[k]? = some (AV.slot i) := by simpa using h1
    have h2' : xs[k]? = some (Rs.ow c) := by simpa using h2
    have h3' : ys[k]? = some y := by simpa using h3
    cases a with
    | val d => cases x <;> exact putBack_in (as := as) (xs := xs) (ys := ys) (by simpa [ownIx] using nd) h1' h2' h3' h4
    | slot j =>
      cases x with
      | fz d => exact putBack_in (as := as) (xs := xs) (ys := ys) (by simpa [ownIx] using nd) h1' h2' h3' h4
      | ow c2 =>
        simp only [ownIx, List.nodup_cons] at nd
        have hne : i ≠ j := fun e => nd.1 (e ▸ ownIx_mem h1' h2')
        exact putBack_in (r := put1 r j z) (as := as) (xs := xs) (ys := ys) nd.2 h1' h2' h3' (by rw [put1_ne hne]; exact h4)
theorem looks_get {r : Ro} : ∀ {as : List AV} {xs : List Rs} {k : Nat} {x : Rs}, looks r as = some xs → xs[k]? = some x → ∃ a, as[k]? = some a ∧ look r a = some x
  | [], xs, k, x, h, e => by cases h; simp at e
  | a :: as, xs, k, x, h, e => by
    simp only [looks] at h
    split at h
    · rename_i y ys h1 h2
      cases h
      cases k with
      | zero => simp at e; subst e; exact ⟨a, rfl, h1⟩
      | succ k =>
        obtain ⟨b, g1, g2⟩ := looks_get (k := k) h2 (by simpa using e)
        exact ⟨b, by simpa using g1, g2⟩
    · cases h
theorem look_ow {r : Ro} {a : AV} {c : Ct} (h : look r a = some (.ow c)) : ∃ i b, a = .slot i ∧ r[i]? = some (Sl.own b c) := by
  cases a with
  | val d => cases h
  | slot i =>
    simp only [look] at h
    split at h
    · cases h
    · rename_i b c' q; cases h; exact ⟨i, b, rfl, q⟩
    · cases h
theorem paired_get {α β : Type} {F : α → β → Prop} : ∀ {l : List α} {m : List β} {k : Nat} {x : α}, Paired F l m → l[k]? = some x → ∃ y, m[k]? = some y ∧ F x y
  | _, _, _, _, .nil, e => by simp at e
  | _, _, 0, x, .cons h t, e => by simp at e; subst e; exact ⟨_, rfl, h⟩
  | _, _, k + 1, x, .cons h t, e => by
    obtain ⟨y, h1, h2⟩ := paired_get (k := k) t (by simpa using e)
    exact ⟨y, by simpa using h1, h2⟩
section
variable {K : PySem.W.Frag} {B H B' H' : Hp} {σ : L2.St} {r : Ro} {O Oc' : Addr → Prop} {as : List AV} {xs ys : List Rs} {vs : List V}
/-- what is lent -/
def lent (K : PySem.W.Frag) (B H : Hp) (O : Addr → Prop) (xs : List Rs) (vs : List V) : Addr → Prop := fun a => O a ∧ ∃ (k : Nat) (c : Ct) (l : Addr) (F : List Addr), xs[k]? = some (Rs.ow c) ∧ vs[k]? = some (V.ref l) ∧ OwnR K B H c l F ∧ a ∈ F
/-- the slots at a callee's entry -/
theorem call_in (c : Con K B H σ r O) (lk : looks r as = some xs) (pv : Paired (AvR K B σ) as vs) (nd : (ownIx as xs).Nodup) : Con K B H (vs.map some) (xs.map toSl) (lent K B H O xs vs) := by
  have px := c.looks lk pv
  have own : ∀ (k : Nat) b ct, (xs.map toSl)[k]? = some (Sl.own b ct) → ∃ i b0 l F, as[k]? = some (AV.slot i) ∧ xs[k]? = some (Rs.ow ct) ∧ r[i]? = some (Sl.own b0 ct) ∧ σ[i]? = some (some (V.ref l)) ∧ vs[k]? = some (V.ref l) ∧ OwnR K B H ct l F ∧ ∀ a ∈ F, O a := by
    intro k b ct e
    rw [List.getElem?_map] at e
    cases q : xs[k]? with
    | none => rw [q] at e; cases e
    | some x =>
      rw [q] at e
      cases x with
      | fz d => cases e
      | ow c2 =>
        cases e
        obtain ⟨a, h1, h2⟩ := looks_get lk q
        obtain ⟨i, b0, rfl, h3⟩ := look_ow h2
        obtain ⟨l, F, g1, g2, g3⟩ := c.own i b0 _ h3
        obtain ⟨v, e1, e2⟩ := paired_get pv h1
        rw [show σ[i]? = some (some v) from e2] at g1; cases g1
        exact ⟨i, b0, l, F, h1, rfl, h3, e2, e1, g2, g3⟩
  refine ⟨⟨c.sub, fun a h => c.off a h.1, fun a h => c.liv a h.1, by rw [List.length_map, List.length_map, px.length], fun k b d e => ?_, fun k b ct e => ?_, fun k j b c1 b' c2 l l' F F' ne e1 e2 s1 s2 o1 o2 => ?_⟩, fun i j k h => ?_⟩
  · rw [List.getElem?_map] at e
    cases q : xs[k]? with
    | none => rw [q] at e; cases e
    | some x =>
      rw [q] at e
      cases x with
      | ow c2 => cases e
      | fz d2 =>
        cases e
        obtain ⟨v, e1, e2⟩ := paired_get px q
        exact ⟨v, by rw [List.getElem?_map, e1]; rfl, e2⟩
  · obtain ⟨i, b0, l, F, h1, h2, h3, h4, h5, h6, h7⟩ := own k b ct e
    exact ⟨l, F, by rw [List.getElem?_map, h5]; rfl, h6, fun a ha => ⟨h7 a ha, k, ct, l, F, h2, h5, h6, ha⟩⟩
  · obtain ⟨i, b0, m, G, h1, h2, h3, h4, h5, h6, h7⟩ := own k b c1 e1
    obtain ⟨i', b0', m', G', h1', h2', h3', h4', h5', h6', h7'⟩ := own j b' c2 e2
    rw [List.getElem?_map, h5] at s1; cases s1
    rw [List.getElem?_map, h5'] at s2; cases s2
    refine c.sep i i' b0 c1 b0' c2 _ _ F F' (fun e => ?_) h3 h3' h4 h4' o1 o2
    subst e
    -- one slot at two places
    exact absurd nd (ownIx_two ne h1 h1' h2 h2')
  · rw [List.getElem?_map] at h
    cases q : xs[i]? with
    | none => rw [q] at h; cases h
    | some x => rw [q] at h; cases x <;> cases h
where
  ownIx_two : ∀ {as : List AV} {xs : List Rs} {k j i : Nat} {c c' : Ct}, k ≠ j → as[k]? = some (AV.slot i) → as[j]? = some (AV.slot i) → xs[k]? = some (Rs.ow c) → xs[j]? = some (Rs.ow c') → ¬ (ownIx as xs).Nodup
    | [], _, _, _, _, _, _, _, h, _, _, _ => by simp at h
    | _ :: _, [], _, _, _, _, _, _, _, _, h, _ => by simp at h
    | a :: as, x :: xs, 0, 0, _, _, _, n, _, _, _, _ => absurd rfl n
    | a :: as, x :: xs, 0, j + 1, i, c, c', _, h1, h2, h3, h4 => by
      simp at h1 h3
      subst h1 h3
      have := ownIx_mem (as := as) (xs := xs) (k := j) (i := i) (c := c') (by simpa using h2) (by simpa using h4)
      simp [ownIx, this]
    | a :: as, x :: xs, k + 1, 0, i, c, c', _, h1, h2, h3, h4 => by
      simp at h2 h4
      subst h2 h4
      have := ownIx_mem (as := as) (xs := xs) (k := k) (i := i) (c := c) (by simpa using h1) (by simpa using h3)
      simp [ownIx, this]
    | a :: as, x :: xs, k + 1, j + 1, i, c, c', n, h1, h2, h3, h4 => by
      have := ownIx_two (as := as) (xs := xs) (k := k) (j := j) (i := i) (c := c) (c' := c') (fun e => n (by rw [e])) (by simpa using h1) (by simpa using h2) (by simpa using h3) (by simpa using h4)
      cases a <;> cases x <;> simp_all [ownIx]
/-- the slots behind a call -/
theorem call_out (c : Con K B H σ r O) (lk : looks r as = some xs) (pv : Paired (AvR K B σ) as vs) (nd : (ownIx as xs).Nodup) (na : (ownIx as xs).all (noAl r) = true) (hl : ys.length = xs.length) (s : Step B H (lent K B H O xs vs) B' H' Oc')
    (c' : Con K B' H' (vs.map some) (List.zipWith exitSl xs ys) Oc') :
    ∃ O', Step B H O B' H' O' ∧ Con K B' H' σ (putBack r as xs ys) O' ∧ Bor r σ (putBack r as xs ys) σ ∧ ∀ a, O' a → O a ∨ Oc' a := by
  have px := c.looks lk pv
  -- a slot that was lent
  have back : ∀ (i : Nat), i ∈ ownIx as xs → ∃ (k : Nat) (ct : Ct) (b : Bool) (y : Rs) (l : Addr), as[k]? = some (AV.slot i) ∧ xs[k]? = some (Rs.ow ct) ∧ r[i]? = some (Sl.own b ct) ∧ ys[k]? = some y ∧ vs[k]? = some (V.ref l) ∧ σ[i]? = some (some (V.ref l)) ∧ (putBack r as xs ys)[i]? = some (backSl b y) ∧ (List.zipWith exitSl xs ys)[k]? = some (backSl true y) := by
    intro i hi
    obtain ⟨k, ct, h1, h2⟩ := ownIx_of hi
    obtain ⟨a, g1, g2⟩ := looks_get lk h2
    rw [h1] at g1; cases g1
    obtain ⟨i', b, e, h3⟩ := look_ow g2
    cases e
    obtain ⟨l, F, q1, q2, q3⟩ := c.own i b ct h3
    obtain ⟨v, e1, e2⟩ := paired_get pv h1
    rw [show σ[i]? = some (some v) from e2] at q1; cases q1
    have hk : k < ys.length := by rw [hl]; exact (List.getElem?_eq_some_iff.mp h2).1
    refine ⟨k, ct, b, ys[k], l, h1, h2, h3, List.getElem?_eq_getElem hk, e1, e2, putBack_in nd h1 h2 (List.getElem?_eq_getElem hk) h3, ?_⟩
    rw [List.getElem?_zipWith, h2, List.getElem?_eq_getElem hk]
    rfl
  -- what was owned and not lent
  have kept : ∀ (i : Nat) b ct l F, i ∉ ownIx as xs → r[i]? = some (Sl.own b ct) → σ[i]? = some (some (V.ref l)) → OwnR K B H ct l F → ∀ a ∈ F, O a ∧ ¬ lent K B H O xs vs a ∧ H' a = H a ∧ B' a = none := by
    intro i b ct l F hi e hs o a ha
    obtain ⟨l0, F0, q1, q2, q3⟩ := c.own i b ct e
    rw [hs] at q1; cases q1
    rw [ownR_uniq o q2 fun _ _ => rfl] at q3
    have nl : ¬ lent K B H O xs vs a := fun ⟨_, k, c2, l2, F2, x1, x2, x3, x4⟩ => by
      obtain ⟨a2, g1, g2⟩ := looks_get lk x1
      obtain ⟨j, b2, e2, h3⟩ := look_ow g2
      subst e2
      obtain ⟨v, e1, e2⟩ := paired_get pv g1
      rw [x2] at e1; cases e1
      exact c.sep i j b ct b2 c2 l l2 F F2 (fun z => hi (z ▸ ownIx_mem g1 x1)) e h3 hs e2 o x3 a ha x4
    have oa := q3 a ha
    have ha0 := c.liv a oa
    refine ⟨oa, nl, ?_, s.nB a ha0 nl (c.off a oa)⟩
    cases q : H a with
    | none => exact absurd q ha0
    | some x => exact s.keep a x q nl
  have sB := s.sB
  refine ⟨fun a => (O a ∨ Oc' a) ∧ B' a = none ∧ H' a ≠ none, ⟨sB, fun a o h n => s.keep a o h fun z => n z.1, s.live, fun a h n b => s.nB a h (fun z => n z.1) b, fun a h => ?_⟩, ⟨⟨c'.sub, fun a h => h.2.1, fun a h => h.2.2, by rw [putBack_len, c.len], fun i b d e => ?_, fun i b ct e => ?_, fun i j b c1 b' c2 l l' F F' ne e1 e2 s1 s2 o1 o2 => ?_⟩, fun i j k h b rows l as2 h1 h2 h3 => ?_⟩, fun i x e p => ⟨?_, rfl⟩, fun a h => h.1⟩
  · rcases h.1 with h | h
    · exact .inl h
    · exact (s.nO a h).elim (fun z => .inl z.1) .inr
  · by_cases hi : i ∈ ownIx as xs
    · obtain ⟨k, ct, b0, y, l, h1, h2, h3, h4, h5, h6, h7, h8⟩ := back i hi
      rw [h7] at e
      cases y with
      | ow _ => cases e
      | fz d2 =>
        cases e
        obtain ⟨v, g1, g2⟩ := c'.frz k true d h8
        rw [List.getElem?_map, h5] at g1; cases g1
        exact ⟨_, h6, g2⟩
    · rw [putBack_out hi] at e
      obtain ⟨v, g1, g2⟩ := c.frz i b d e
      exact ⟨v, g1, dp_same sB g2⟩
  · by_cases hi : i ∈ ownIx as xs
    · obtain ⟨k, ct0, b0, y, l, h1, h2, h3, h4, h5, h6, h7, h8⟩ := back i hi
      rw [h7] at e
      cases y with
      | fz _ => cases e
      | ow c2 =>
        cases e
        obtain ⟨l2, F, g1, g2, g3⟩ := c'.own k true _ h8
        rw [List.getElem?_map, h5] at g1; cases g1
        exact ⟨_, F, h6, g2, fun a ha => ⟨.inr (g3 a ha), c'.off a (g3 a ha), c'.liv a (g3 a ha)⟩⟩
    · rw [putBack_out hi] at e
      obtain ⟨l, F, g1, g2, g3⟩ := c.own i b ct e
      have kp := kept i b ct l F hi e g1 g2
      exact ⟨l, F, g1, ownR_same g2 sB fun a ha => (kp a ha).2.2.1, fun a ha => ⟨.inl (kp a ha).1, (kp a ha).2.2.2, by rw [(kp a ha).2.2.1]; exact c.liv a (kp a ha).1⟩⟩
  · -- apart
    have mixed : ∀ (i j : Nat) b c1 b' c2 l l' F F', i ∈ ownIx as xs → j ∉ ownIx as xs → (putBack r as xs ys)[i]? = some (Sl.own b c1) → (putBack r as xs ys)[j]? = some (Sl.own b' c2) → σ[i]? = some (some (V.ref l)) → σ[j]? = some (some (V.ref l')) →
        OwnR K B' H' c1 l F → OwnR K B' H' c2 l' F' → ∀ a ∈ F, a ∉ F' := by
      intro i j b c1 b' c2 l l' F F' hi hj e1 e2 s1 s2 o1 o2 a ha hb
      obtain ⟨k, ct0, b0, y, l0, h1, h2, h3, h4, h5, h6, h7, h8⟩ := back i hi
      rw [h7] at e1
      cases y with
      | fz _ => cases e1
      | ow c3 =>
        cases e1
        obtain ⟨l2, F2, g1, g2, g3⟩ := c'.own k true _ h8
        rw [List.getElem?_map, h5] at g1; cases g1
        rw [h6] at s1; cases s1
        rw [ownR_uniq o1 g2 fun _ _ => rfl] at g3
        rw [putBack_out hj] at e2
        obtain ⟨l3, F3, q1, q2, q3⟩ := c.own j b' c2 e2
        rw [s2] at q1; cases q1
        have kp := kept j b' c2 _ F3 hj e2 s2 q2
        rw [ownR_uniq q2 o2 fun a ha => (kp a ha).2.2.1] at hb
        rcases s.nO a (g3 a ha) with z | z
        · exact (kp a hb).2.1 z
        · exact c.liv a (kp a hb).1 z
    by_cases hi : i ∈ ownIx as xs
    · by_cases hj : j ∈ ownIx as xs
      · obtain ⟨k, ct0, b0, y, l0, h1, h2, h3, h4, h5, h6, h7, h8⟩ := back i hi
        obtain ⟨k', ct0', b0', y', l0', h1', h2', h3', h4', h5', h6', h7', h8'⟩ := back j hj
        rw [h7] at e1
        rw [h7'] at e2
        rw [h6] at s1; cases s1
        rw [h6'] at s2; cases s2
        cases y with
        | fz _ => cases e1
        | ow c3 =>
          cases y' with
          | fz _ => cases e2
          | ow c3' =>
            cases e1
            cases e2
            refine c'.sep k k' true _ true _ _ _ F F' (fun z => ?_) h8 h8' (by rw [List.getElem?_map, h5]; rfl) (by rw [List.getElem?_map, h5']; rfl) o1 o2
            subst z
            rw [h1] at h1'; cases h1'
            exact ne rfl
      · exact mixed i j b c1 b' c2 l l' F F' hi hj e1 e2 s1 s2 o1 o2
    · by_cases hj : j ∈ ownIx as xs
      · exact fun a ha hb => mixed j i b' c2 b c1 l' l F' F hj hi e2 e1 s2 s1 o2 o1 a hb ha
      · rw [putBack_out hi] at e1
        rw [putBack_out hj] at e2
        obtain ⟨l3, F3, q1, q2, q3⟩ := c.own i b c1 e1
        rw [s1] at q1; cases q1
        obtain ⟨l4, F4, q1', q2', q3'⟩ := c.own j b' c2 e2
        rw [s2] at q1'; cases q1'
        have kp := kept i b c1 _ F3 hi e1 s1 q2
        have kp' := kept j b' c2 _ F4 hj e2 s2 q2'
        rw [ownR_uniq q2 o1 fun a ha => (kp a ha).2.2.1, ownR_uniq q2' o2 fun a ha => (kp' a ha).2.2.1]
        exact c.sep i j b c1 b' c2 _ _ _ _ ne e1 e2 s1 s2 q2 q2'
  · -- a slot that looks into another one
    have hi : i ∉ ownIx as xs := fun hi => by
      obtain ⟨k', ct, b0, y, l0, g1, g2, g3, g4, g5, g6, g7, g8⟩ := back i hi
      rw [g7] at h
      cases y <;> cases h
    rw [putBack_out hi] at h
    have hj : j ∉ ownIx as xs := fun hj => absurd h (noAl_of (List.all_eq_true.mp na j hj))
    rw [putBack_out hj] at h1
    obtain ⟨l0, F, g1, g2, g3⟩ := c.own j b _ h1
    rw [h2] at g1; cases g1
    rw [(kept j b _ _ F hj h1 h2 g2 _ (ownR_mem g2)).2.2.1] at h3
    exact c.al i j k h b rows _ as2 h1 h2 h3
  · -- a lent parameter of ours
    by_cases hi : i ∈ ownIx as xs
    · obtain ⟨k, ct0, b0, y, l0, h1, h2, h3, h4, h5, h6, h7, h8⟩ := back i hi
      rw [h3] at e; cases e
      have p : b0 = true := p
      subst p
      exact ⟨_, h7, by cases y <;> rfl⟩
    · exact ⟨x, by rw [putBack_out hi]; exact e, p⟩
end
/-- what a def promises, by its meaning -/
def spD (K : PySem.W.Frag) (mg : Str → Option Value) (f : Sem) (n : Nat) : Sp := fun vs H Q E => vs.length = n ∧ ∃ B O xs, Con K B H (vs.map some) (xs.map toSl) O ∧ ∃ o ys, f xs = some (o, ys) ∧ ys.length = xs.length ∧ match o with
  | .ok rv => ∀ B' H' O' v, Step B H O B' H' O' → Con K B' H' (vs.map some) (List.zipWith exitSl xs ys) O' → RvR K H B' H' O' rv v → Q v H'
  | .exc x => ∀ B' H' O' c dx, Step B H O B' H' O' → Con K B' H' (vs.map some) (List.zipWith exitSl xs ys) O' → XnR K mg x c dx H' → E c dx H'
section
variable {X : Cx} {W : WX}
theorem de_call {k : Nat} {f : Addr} {fd : FuncData} {ps : List Str} {sem : Sem} {x : Str} {p pos : Pos} {e : Expr} {es : List Expr} {ms : List (M AV)} (tk : L2N.Takes X W)
    (F : FnOk X.prog X.w X.K X.mg X.base (L2N.CX X.prog X.w) k f fd ps (spD X.K X.mg sem ps.length)) (hr : Room k X.A) (hg : Gl X x) (hm : X.mg x = some (.ref f)) (hk : PySem.W.keepIn X.K (.ref f) = true) (hb : Binds X.K fd ps [])
    (hn : ms.length = ps.length) (ha : DA X W (e :: es) (oL ms)) (hdb : (x == ("__debug__" : Str)) = false := by decide) (he : starEach (e :: es) X.env = (false, eval e X.env) :: starEach es X.env := by rfl) (hpl : (backTo pos (starEach es X.env)).any (·.1) = false := by rfl) :
    DE X W (.Call (.Name x p) (e :: es) [] pos) (mCall sem ms) := pe_weak (pe_callS F hr hg hm hk hb (fun σ => L2N.passAt tk σ) ha hdb he hpl) fun σ H Q ⟨B, r, O, h⟩ => by
  have olen : ∀ (ms : List (M AV)) (r : Ro) as r', oL ms r = some (.ok as, r') → as.length = ms.length := by
    intro ms
    induction ms with
    | nil => intro r as r' e; cases e; rfl
    | cons m ms ih =>
      intro r as r' e
      unfold oL M.bind at e
      split at e
      · cases e
      · rename_i a r1 q
        simp only [M.bind] at e
        split at e
        · cases e
        · rename_i as2 r2 q2
          cases e
          rw [List.length_cons, ih _ _ _ q2, List.length_cons]
        · cases e
      · cases e
  obtain ⟨c0, o0, r0, e0, p0⟩ := h
  have hlen : ∀ as r1, oL ms r = some (.ok as, r1) → as.length = ps.length := fun as r1 q => (olen ms r as r1 q).trans hn
  have h : At (Cx.g X) W (mCall sem ms) (rV (Cx.g X)) B r O σ H Q := ⟨c0, o0, r0, e0, p0⟩
  refine ⟨B, r, O, c0, ?_⟩
  unfold mCall M.bind at e0
  cases q : oL ms r with
  | none => rw [q] at e0; cases e0
  | some z =>
    obtain ⟨o1, r1⟩ := z
    rw [q] at e0
    refine ⟨o1, r1, rfl, ?_⟩
    cases o1 with
    | exc x => cases e0; exact p0
    | ok as =>
      intro B1 H1 O1 vs s1 c1 b1 x1
      simp only at e0
      cases q2 : looks r1 as with
      | none => rw [q2] at e0; cases e0
      | some xs =>
        rw [q2] at e0
        simp only at e0
        split at e0
        · rename_i nd
          cases q3 : sem xs with
          | none => rw [q3] at e0; cases e0
          | some z3 =>
            obtain ⟨o3, ys⟩ := z3
            rw [q3] at e0
            simp only at e0
            split at e0
            · rename_i hl
              cases e0
              have x1 : Paired (AvR X.K B1 σ) as vs := x1
              refine ⟨by rw [← x1.length]; exact hlen as r1 q, B1, lent X.K B1 H1 O1 xs vs, xs, call_in c1 q2 x1 nd.1, o0, ys, q3, hl, ?_⟩
              cases o0 with
              | ok rv =>
                intro B' H' O' v s2 c2 x2
                obtain ⟨O2, s3, c3, b3, ho⟩ := call_out c1 q2 x1 nd.1 nd.2 hl s2 c2
                refine p0 B' H' O2 v (s1.trans s3) c3 (b1.trans b3) (later_rV H H1 B' H' O2 σ rv v s1.live ?_)
                cases rv with
                | val d => exact x2
                | new ct =>
                  obtain ⟨l, F, e1, o, hF⟩ := x2
                  refine ⟨l, F, e1, o, fun a ha => ⟨(hF a ha).1, (hF a ha).2.1, fun z => ?_⟩⟩
                  rcases ho a z with z | z
                  · exact c1.liv a z (hF a ha).1
                  · exact (hF a ha).2.2 z
              | exc x =>
                intro B' H' O' c dx s2 c2 x2
                obtain ⟨O2, s3, c3, b3, ho⟩ := call_out c1 q2 x1 nd.1 nd.2 hl s2 c2
                exact p0 B' H' O2 c dx (s1.trans s3) c3 (b1.trans b3) x2
            · cases e0
        · cases e0
end
end DL
end

section
namespace DL
open PySem PySem.Spec PyProof.Rows L2
/-- what a statement's end has to bring -/
def PostS (G : Ct2) (W : WX) (B : Hp) (r : Ro) (O : Addr → Prop) (σ : L2.St) (H : Hp) (D : Ends) (r' : Ro) : SO → Prop
  | .nx => ∀ B' H' O' σ', Step B H O B' H' O' → Con G.K B' H' σ' r' O' → Bor r σ r' σ' → D.nx σ' H'
  | .brk => ∀ B' H' O' σ', Step B H O B' H' O' → Con G.K B' H' σ' r' O' → Bor r σ r' σ' → D.bk σ' H'
  | .cnt => ∀ B' H' O' σ', Step B H O B' H' O' → Con G.K B' H' σ' r' O' → Bor r σ r' σ' → D.ct σ' H'
  | .ret v => ∀ B' H' O' σ' x, Step B H O B' H' O' → Con G.K B' H' σ' r' O' → Bor r σ r' σ' → RvR G.K H B' H' O' v x → D.rt x H'
  | .rets i => ∀ B' H' O' σ' x, Step B H O B' H' O' → Con G.K B' H' σ' r' O' → Bor r σ r' σ' → σ'[i]? = some (some x) → D.rt x H'
  | .exc x => ∀ B' H' O' σ' c dx, Step B H O B' H' O' → Con G.K B' H' σ' r' O' → Bor r σ r' σ' → XnR G.K G.mg x c dx H' → W c dx σ' H'
/-- a statement's meaning from a state, with its ends -/
def AtS (G : Ct2) (W : WX) (m : S) (B : Hp) (r : Ro) (O : Addr → Prop) (σ : L2.St) (H : Hp) (D : Ends) : Prop :=
  Con G.K B H σ r O ∧ ∃ o r', m r = some (o, r') ∧ PostS G W B r O σ H D r' o
def tS (G : Ct2) (W : WX) (m : S) : TS := fun D σ H => ∃ B r O, AtS G W m B r O σ H D
def DS (X : Cx) (W : WX) (st : Stmt) (m : S) : Prop := PS X st (tS (Cx.g X) W m)
def DSs (X : Cx) (W : WX) (st : List Stmt) (m : S) : Prop := PSs X st (tS (Cx.g X) W m)
theorem pss_weak {X : Cx} {e : List Stmt} {t t' : TS} (h : PSs X e t) (w : ∀ D σ H, t' D σ H → t D σ H) : PSs X e t' := ⟨fun pins s σ H D I q => h.run pins s σ H D I (w D σ H q)⟩
section
variable {X : Cx} {W : WX} {G : Ct2}
theorem tS.of {m : S} {B : Hp} {r : Ro} {O : Addr → Prop} {σ : L2.St} {H : Hp} {D : Ends} (h : AtS G W m B r O σ H D) : tS G W m D σ H := ⟨B, r, O, h⟩
/-- ahead of a statement something else went -/
theorem AtS.after {m : S} {B B1 : Hp} {r r1 : Ro} {O O1 : Addr → Prop} {σ σ1 : L2.St} {H H1 : Hp} {D : Ends} {o : SO} {r' : Ro} (s1 : Step B H O B1 H1 O1) (c1 : Con G.K B1 H1 σ1 r1 O1) (b1 : Bor r σ r1 σ1) (e : m r1 = some (o, r'))
    (p : PostS G W B r O σ H D r' o) : AtS G W m B1 r1 O1 σ1 H1 D := by
  refine ⟨c1, o, r', e, ?_⟩
  cases o with
  | nx => exact fun B' H' O' σ' s c b => p B' H' O' σ' (s1.trans s) c (b1.trans b)
  | brk => exact fun B' H' O' σ' s c b => p B' H' O' σ' (s1.trans s) c (b1.trans b)
  | cnt => exact fun B' H' O' σ' s c b => p B' H' O' σ' (s1.trans s) c (b1.trans b)
  | ret v => exact fun B' H' O' σ' x s c b y => p B' H' O' σ' x (s1.trans s) c (b1.trans b) (later_rV (G := G) H H1 B' H' O' σ' v x s1.live y)
  | rets i => exact fun B' H' O' σ' x s c b y => p B' H' O' σ' x (s1.trans s) c (b1.trans b) y
  | exc x => exact fun B' H' O' σ' k dx s c b y => p B' H' O' σ' k dx (s1.trans s) c (b1.trans b) y
theorem AtS.seq {a b : S} {B : Hp} {r : Ro} {O : Addr → Prop} {σ : L2.St} {H : Hp} {D : Ends} (h : AtS G W (sSeq a b) B r O σ H D) : AtS G W a B r O σ H { D with nx := tS G W b D } := by
  obtain ⟨c, o, r', e, p⟩ := h
  refine ⟨c, ?_⟩
  unfold sSeq at e
  cases q : a r with
  | none => rw [q] at e; cases e
  | some z =>
    obtain ⟨o1, r1⟩ := z
    rw [q] at e
    refine ⟨o1, r1, rfl, ?_⟩
    cases o1 with
    | nx => exact fun B1 H1 O1 σ1 s1 c1 b1 => tS.of (AtS.after s1 c1 b1 e p)
    | brk => cases e; exact p
    | cnt => cases e; exact p
    | ret v => cases e; exact p
    | rets i => cases e; exact p
    | exc x => cases e; exact p
/-- an expression ahead -/
theorem AtS.ex {α β : Type} {m : M α} {k : α → S} {R : Rl α β} {B : Hp} {r : Ro} {O : Addr → Prop} {σ : L2.St} {H : Hp} {D : Ends} (h : AtS G W (sEx m k) B r O σ H D) :
    At G W m R B r O σ H fun y H1 => ∃ a B1 r1 O1, Step B H O B1 H1 O1 ∧ Bor r σ r1 σ ∧ R H B1 H1 O1 σ a y ∧ Con G.K B1 H1 σ r1 O1 ∧ ∃ o r', k a r1 = some (o, r') ∧ PostS G W B r O σ H D r' o := by
  obtain ⟨c, o, r', e, p⟩ := h
  refine ⟨c, ?_⟩
  unfold sEx at e
  cases q : m r with
  | none => rw [q] at e; cases e
  | some z =>
    obtain ⟨o1, r1⟩ := z
    rw [q] at e
    refine ⟨o1, r1, rfl, ?_⟩
    cases o1 with
    | ok a => exact fun B1 H1 O1 y s1 c1 b1 x1 => ⟨a, B1, r1, O1, s1, b1, x1, c1, o, r', e, p⟩
    | exc x =>
      cases e
      exact fun B1 H1 O1 k dx s1 c1 b1 x1 => p B1 H1 O1 σ k dx s1 c1 b1 x1
theorem dss_nil : DSs X W [] sNx := pss_weak pss_nil fun D σ H ⟨B, r, O, c, o, r', e, p⟩ => by
  cases e
  exact p B H O σ .refl c .refl
theorem dss_cons {st : Stmt} {sts : List Stmt} {a b : S} (h : DS X W st a) (t : DSs X W sts b) : DSs X W (st :: sts) (sSeq a b) := pss_weak (pss_cons h t) fun D σ H ⟨B, r, O, h⟩ => tS.of h.seq
theorem dss_one {st : Stmt} {a : S} (h : DS X W st a) : DSs X W [st] a := pss_one h
theorem ds_ret {e : Expr} {pos : Pos} {m : M RV} (h : DE X W e m) : DS X W (.Return (some e) pos) (sRet m) := ps_weak (ps_ret h) fun D σ H ⟨B, r, O, h⟩ => by
  refine tG.of (h.ex.mono ?_)
  rintro y H1 ⟨v, B1, r1, O1, s1, b1, x1, c1, o, r', e, p⟩
  cases e
  exact p B1 H1 O1 σ y s1 c1 b1 x1
theorem ds_if {c : Expr} {a b : List Stmt} {pos : Pos} {t : M Bool} {m n : S} (hc : DB X W c t) (ha : DSs X W a m) (hb : DSs X W b n) : DS X W (.If c a b pos) (sIf t m n) := ps_weak (ps_if hc ha hb) fun D σ H ⟨B, r, O, h⟩ => by
  refine tG.of (h.ex.mono ?_)
  rintro y H1 ⟨v, B1, r1, O1, s1, b1, x1, c1, o, r', e, p⟩
  cases x1
  cases y with
  | true => exact iteT (tS.of (AtS.after s1 c1 b1 e p))
  | false => exact iteF (tS.of (AtS.after s1 c1 b1 e p))
theorem ds_expr {e : Expr} {pos : Pos} {m : M RV} (h : DE X W e m) (hs : swapsWith e none pos.line X.env = pure false := by rfl) : DS X W (.Expr e pos) (sDrop m) := ps_weak (ps_expr h hs) fun D σ H ⟨B, r, O, h⟩ => by
  refine tG.of (h.ex.mono ?_)
  rintro y H1 ⟨v, B1, r1, O1, s1, b1, x1, c1, o, r', e, p⟩
  cases e
  exact p B1 H1 O1 σ s1 c1 b1
/-- the slot i gets a result -/
theorem put_ok {K : PySem.W.Frag} {B H0 H : Hp} {σ : L2.St} {r r' : Ro} {O : Addr → Prop} {i : Nat} {v : RV} {x : V} {o : SO} (c : Con K B H σ r O) (e : putSl i v r = some (o, r')) (h : RvR K H0 B H O v x) (live : ∀ p, H0 p ≠ none → H p ≠ none) :
    o = .nx ∧ ∃ O', Con K B H (σ.set i (some x)) r' O' ∧ Bor r σ r' (σ.set i (some x)) ∧ ∀ a, O' a → O a ∨ H0 a = none := by
  unfold putSl at e
  split at e
  · cases e
  · rename_i y hy
    split at e
    · cases e
    · rename_i np
      have hi : i < σ.length := by
        rw [← c.len]
        exact (List.getElem?_eq_some_iff.mp hy).1
      have bor : ∀ z, Bor r σ (r.set i z) (σ.set i (some x)) := fun z j w hw pw => by
        have hj : j ≠ i := fun e => by
          subst e
          rw [hy] at hw; cases hw
          cases y <;> exact np pw
        exact ⟨⟨w, by rw [List.getElem?_set_ne (Ne.symm hj)]; exact hw, pw⟩, List.getElem?_set_ne (Ne.symm hj)⟩
      cases v with
      | val d =>
        cases e
        exact ⟨rfl, O, c.setF hi h, bor _, fun a h => .inl h⟩
      | new ct =>
        have e' : (∀ rows, ct = .ll rows → noAl r i = true) ∧ o = .nx ∧ r' = r.set i (.own false ct) := by
          cases ct with
          | ll rows =>
            simp only at e
            split at e
            · rename_i q; cases e; exact ⟨fun _ _ => q, rfl, rfl⟩
            · cases e
          | _ => cases e; exact ⟨fun _ z => (by cases z), rfl, rfl⟩
        obtain ⟨hal, rfl, rfl⟩ := e'
        obtain ⟨F, hF, c'⟩ := c.setN (b := false) hi h hal
        exact ⟨rfl, _, c', bor _, fun a h => h.elim .inl fun h => .inr (hF a h).1⟩
theorem put_step {B H B1 H1 : Hp} {O O1 O' : Addr → Prop} (s : Step B H O B1 H1 O1) (h : ∀ a, O' a → O1 a ∨ H a = none) : Step B H O B1 H1 O' :=
  ⟨s.sB, s.keep, s.live, s.nB, fun a z => (h a z).elim (s.nO a) .inr⟩
theorem ds_setG {st : Stmt} {i : Nat} {m : M RV} (h : PS X st (tAsg (tG (Cx.g X) W m (rV (Cx.g X))) (gName i))) : DS X W st (sSet i m) := ps_weak h fun D σ H ⟨B, r, O, h⟩ => by
  refine tG.of (h.ex.mono ?_)
  rintro y H1 ⟨v, B1, r1, O1, s1, b1, x1, c1, o, r', e, p⟩
  obtain ⟨rfl, O2, c2, b2, h2⟩ := put_ok c1 e x1 s1.live
  exact p B1 H1 O2 _ (put_step s1 h2) c2 (b1.trans b2)
/-- name = e -/
theorem ds_set {i : Nat} {x : Str} {e : Expr} {pos pos' : Pos} {m : M RV} (hN : X.N.Nodup) (hi : X.N[i]? = some x) (hx : Loc X.env.scope x) (he : DE X W e m) (hs : swapsWith e (some (.Name x pos')) pos.line X.env = pure false := by rfl)
    (hf : X.fn x = true ∨ X.env.scope.names.lookup x = some .local := by first | exact .inl rfl | exact .inr rfl | assumption) : DS X W (.Assign [.Name x pos'] e pos) (sSet i m) := ds_setG (ps_set hN hi hx he hs hf)
end
end DL
end

section
namespace DL
open PySem
def forS (set : D → S) (body : S) : List D → S
  | [] => sNx
  | d :: ds => fun r => match set d r with
    | some (.nx, r1) => match body r1 with
      | some (.nx, r2) => forS set body ds r2
      | some (.cnt, r2) => forS set body ds r2
      | some (.brk, r2) => some (.nx, r2)
      | z => z
    | _ => none
def sFor (mi : M (List D)) (set : D → S) (body : S) : S := sEx mi (forS set body)
/-- several targets -/
def sets : List (D → S) → List D → S
  | [], [] => sNx
  | f :: fs, d :: ds => sSeq (f d) (sets fs ds)
  | _, _ => fun _ => none
def setN (i : Nat) : D → S := fun d => putSl i (.val d)
def setT (fs : List (D → S)) : D → S
  | .tuple ds => sets fs ds
  | _ => fun _ => none
/-- a comprehension's own names are forgotten -/
def wipeR (r : Ro) : List Nat → Ro
  | [] => r
  | v :: vs => (wipeR r vs).set v .non
def anyPin (r : Ro) (vs : List Nat) : Bool := vs.any fun i => match r[i]? with
  | some x => putSl.pinnedB x
  | none => false
def lcM (vs : List Nat) (set : D → S) (t : M Bool) (e : M RV) : List D → List D → Ro → Option (List D × Ro)
  | [], acc, r => some (acc, r)
  | d :: ds, acc, r => match set d r with
    | some (.nx, r1) => match t r1 with
      | some (.ok true, r2) => match mFz e r2 with
        | some (.ok x, r3) => if acc.length < lineD then lcM vs set t e ds (acc ++ [x]) (wipeR r3 vs) else none
        | _ => none
      | some (.ok false, r2) => lcM vs set t e ds acc (wipeR r2 vs)
      | _ => none
    | _ => none
def mLc (vs : List Nat) (mi : M (List D)) (set : D → S) (t : M Bool) (e : M RV) : M RV := mi.bind fun ds => fun r =>
  if anyPin r vs then none else (lcM vs set t e ds [] (wipeR r vs)).map fun p => (.ok (.new (.lst p.1)), p.2)
/-- what is walked -/
def mRow (m : M RV) : M (List D) := (mFz m).bind fun d => M.of (rowOf d)
def rng (lo hi : Int) : List D := (List.range (hi - lo).toNat).map fun i => .int (lo + (i : Nat))
def okR (i : Int) : Bool := decide (-(2 ^ 62) ≤ i) && decide (i < 2 ^ 62)
def gRng1 : List Rs → Option (List D)
  | [.fz (.int j)] => if okR j then some (rng 0 j) else none
  | _ => none
def gRng2 : List Rs → Option (List D)
  | [.fz (.int i), .fz (.int j)] => if okR i && okR j then some (rng i j) else none
  | _ => none
def mOpL (g : List Rs → Option (List D)) (ms : List (M AV)) : M (List D) := (oL ms).bind fun as => fun r => match looks2 r as with
  | none => none
  | some xs => (g xs).map fun v => (.ok v, r)
def mYes : M Bool := M.ret true
end DL
end

section
namespace DL
open PySem PySem.Spec PyProof.Rows L2
/-- a pair that a walk has just made: its items alone are data -/
def Dw (K : PySem.W.Frag) (B : Hp) (v : V) (d : D) : Prop := ∃ a xs ds, v = .ref a ∧ d = .tuple ds ∧ SqT K B a xs ∧ DqAll K B xs ds
/-- the iterator yields the items ds, as long as what stood still stands -/
structure Serves (K : PySem.W.Frag) (lo : Bool) (J : It) (B0 : Hp) (ds : List D) : Prop where
  stop : ∀ H, Same B0 H → J.stop ds.length H
  go : ∀ i H, i < ds.length → Same B0 H → J.go i H
  yld : ∀ i H x H' d, ds[i]? = some d → Same B0 H → J.yld i H x H' → ∀ B, Same B0 B → Same B H → (H' = H ∧ Dq K B x d) ∨ (lo = true ∧ ∃ T vs, H T = none ∧ H' = upd H T (.tup vs) ∧ Dw K (upd B T (.tup vs)) x d)
def rI (G : Ct2) (lo : Bool) : Rl (List D) It := fun _ B' _ _ _ ds J => Serves G.K lo J B' ds
theorem later_rI {G : Ct2} {lo : Bool} : Later (rI G lo) := fun _ _ _ _ _ _ _ _ _ h => h
def DI (X : Cx) (W : WX) (lo : Bool) (tg iter : Expr) (m : M (List D)) : Prop := PI X tg iter (tG (Cx.g X) W m (rI (Cx.g X) lo))
theorem pi_weak {X : Cx} {tg e : Expr} {t t' : TI} (h : PI X tg e t) (w : ∀ σ H Q, t' σ H Q → t σ H Q) : PI X tg e t' := ⟨fun pins s σ H Q I q => h.run pins s σ H Q I (w σ H Q q)⟩
/-- a target's store of data: only the slots ix change -/
def gD (K : PySem.W.Frag) (lo : Bool) (ix : List Nat) (set : D → S) : TG := fun v σ H Q => ∃ B r O d r', Con K B H σ r O ∧ (Dq K B v d ∨ (lo = true ∧ Dw K B v d)) ∧ set d r = some (.nx, r') ∧
  ∀ σ', Con K B H σ' r' O → Bor r σ r' σ' → (∀ j : Nat, j ∉ ix → σ'[j]? = σ[j]?) → σ'.length = σ.length → Q σ' H
def DG (X : Cx) (lo : Bool) (tg : Expr) (ix : List Nat) (set : D → S) : Prop := PG X tg (gD X.K lo ix set)
theorem pg_weak {X : Cx} {e : Expr} {t t' : TG} (h : PG X e t) (w : ∀ v σ H Q, t' v σ H Q → t v σ H Q) : PG X e t' := ⟨fun pins s σ H v u Q I r q => h.run pins s σ H v u Q I r (w v σ H Q q)⟩
theorem pgs_weak {X : Cx} {e : List Expr} {t t' : TGs} (h : PGs X e t) (w : ∀ v σ H Q, t' v σ H Q → t v σ H Q) : PGs X e t' := ⟨fun pins s σ H v u Q I r q => h.run pins s σ H v u Q I r (w v σ H Q q)⟩
theorem dg_name {X : Cx} {i : Nat} {x : Str} {pos : Pos} (hN : X.N.Nodup) (hi : X.N[i]? = some x) (hx : Loc X.env.scope x) (hf : X.fn x = true ∨ X.env.scope.names.lookup x = some .local := by first | exact .inl rfl | exact .inr rfl | assumption) : DG X false (.Name x pos) [i] (setN i) :=
  pg_weak (pg_name hN hi hx hf) fun v σ H Q ⟨B, r, O, d, r', c, h, e, q⟩ => by
    have h : Dq X.K B v d := h.elim id fun z => nomatch z.1
    have e' : putSl i (.val d) r = some (.nx, r') := e
    unfold putSl at e'
    split at e'
    · cases e'
    · rename_i y hy
      split at e'
      · cases e'
      · rename_i np
        cases e'
        have hi : i < σ.length := by rw [← c.len]; exact (List.getElem?_eq_some_iff.mp hy).1
        refine q _ (c.setF hi h) (fun j w hw pw => ?_) (fun j hj => List.getElem?_set_ne (fun e => hj (by simp [e]))) List.length_set
        have hj : j ≠ i := fun e => by
          subst e
          rw [hy] at hw; cases hw
          cases y <;> exact np pw
        exact ⟨⟨w, by rw [List.getElem?_set_ne (Ne.symm hj)]; exact hw, pw⟩, List.getElem?_set_ne (Ne.symm hj)⟩
def gDs (K : PySem.W.Frag) (ix : List Nat) (fs : List (D → S)) : TGs := fun vs σ H Q => ∃ B r O ds r', Con K B H σ r O ∧ DqAll K B vs ds ∧ sets fs ds r = some (.nx, r') ∧
  ∀ σ', Con K B H σ' r' O → Bor r σ r' σ' → (∀ j : Nat, j ∉ ix → σ'[j]? = σ[j]?) → σ'.length = σ.length → Q σ' H
def DGs (X : Cx) (tgs : List Expr) (ix : List Nat) (fs : List (D → S)) : Prop := PGs X tgs (gDs X.K ix fs)
theorem dgs_nil {X : Cx} : DGs X [] [] [] := pgs_weak pgs_nil fun v σ H Q ⟨B, r, O, ds, r', c, h, e, q⟩ => by
  cases h with
  | nil =>
    cases e
    exact ⟨rfl, q σ c .refl (fun _ _ => rfl) rfl⟩
  | cons _ _ => cases e
theorem dgs_cons {X : Cx} {t : Expr} {ts : List Expr} {ix jx : List Nat} {f : D → S} {fs : List (D → S)} (h1 : DG X false t ix f) (h2 : DGs X ts jx fs) (hs : List.map (fun x => x.snd) (assignEach (t :: ts) X.env) = assign t X.env :: List.map (fun x => x.snd) (assignEach ts X.env) := by rfl) : DGs X (t :: ts) (ix ++ jx) (f :: fs) := pgs_weak (pgs_cons h1 h2 hs) fun v σ H Q ⟨B, r, O, ds, r', c, h, e, q⟩ => by
  cases h with
  | nil => cases e
  | @cons v vs d ds hd hds =>
    have e' : sSeq (f d) (sets fs ds) r = some (.nx, r') := e
    unfold sSeq at e'
    cases q1 : f d r with
    | none => rw [q1] at e'; cases e'
    | some z =>
      obtain ⟨o1, r1⟩ := z
      rw [q1] at e'
      cases o1 with
      | nx =>
        refine ⟨v, vs, rfl, B, r, O, d, r1, c, .inl hd, q1, fun σ1 c1 b1 k1 l1 => ⟨B, r1, O, ds, r', c1, hds, e', fun σ2 c2 b2 k2 l2 => q σ2 c2 (b1.trans b2) (fun j hj => ?_) (l2.trans l1)⟩⟩
        simp only [List.mem_append, not_or] at hj
        rw [k2 j hj.2, k1 j hj.1]
      | _ => cases e'
theorem sets_len : ∀ {fs : List (D → S)} {ds : List D} {r r' : Ro} {o : SO}, sets fs ds r = some (o, r') → o = .nx → ds.length = fs.length
  | [], [], _, _, _, _, _ => rfl
  | [], _ :: _, _, _, _, e, _ => by cases e
  | _ :: _, [], _, _, _, e, _ => by cases e
  | f :: fs, d :: ds, r, r', o, e, ho => by
    have e' : sSeq (f d) (sets fs ds) r = some (o, r') := e
    unfold sSeq at e'
    split at e'
    · rename_i r1 q
      rw [List.length_cons, List.length_cons, sets_len e' ho]
    · rename_i n
      subst ho
      exact (n r' e').elim
theorem dg_tup {X : Cx} {lo : Bool} {es : List Expr} {k : Nat} {pos : Pos} {ix : List Nat} {fs : List (D → S)} (hc : X.calm = true) (h : DGs X es ix fs)
    (hn : (assignEach es X.env).length = fs.length := by rfl) (hst : (assignEach es X.env).findIdx? (·.1) = none := by rfl) : DG X lo (.Tuple es k pos) ix (setT fs) := pg_weak (pg_tup hc h hn hst) fun v σ H Q ⟨B, r, O, d, r', c, hd, e, q⟩ => by
  cases d with
  | tuple ds =>
    obtain ⟨a, xs, rfl, hs, ha⟩ : ∃ a xs, v = .ref a ∧ SqT X.K B a xs ∧ DqAll X.K B xs ds := by
      rcases hd with hd | ⟨_, a, xs, es, rfl, e, h1, h2⟩
      · obtain ⟨a, xs, rfl, h1, h2⟩ := dp_tuple hd
        exact ⟨a, xs, rfl, h1.sq, h2⟩
      · cases e
        exact ⟨a, xs, rfl, h1, h2⟩
    have e' : sets fs ds r = some (.nx, r') := e
    exact ⟨a, xs, rfl, sqt_same c.sub hs, by rw [ha.length]; exact sets_len e' rfl, B, r, O, ds, r', c, ha, e', q⟩
  | _ => cases e
/-- a walk of a loop -/
theorem ds_for {lo : Bool} {tg iter : Expr} {body : List Stmt} {pos : Pos} {X : Cx} {W : WX} {mi : M (List D)} {ix : List Nat} {set : D → S} {mb : S} (hp : PassesOwn (model X.prog X.w) X.A X.env X.xe) (hc : X.calm = true) (hi : DI X W lo tg iter mi) (hg : DG X lo tg ix set) (hb : DSs X W body mb)
    (hs : ∀ x, foldedSetIterable iter X.env x = pure x := by intro _; rfl) : DS X W (.For tg iter body [] pos) (sFor mi set mb) := ps_weak (ps_for hp hc hi hg hb hs) fun D σ H ⟨B, r, O, h⟩ => by
  refine tG.of (h.ex.mono ?_)
  rintro J H1 ⟨ds, B1, r1, O1, s1, b1, x1, c1, o, r', e, p⟩
  refine ⟨fun i m σ' H' => m = ds.length - i ∧ i ≤ ds.length ∧ ∃ B' r2 O', Step B1 H1 O1 B' H' O' ∧ Con X.K B' H' σ' r2 O' ∧ Bor r1 σ r2 σ' ∧ forS set mb (ds.drop i) r2 = some (o, r'), ⟨ds.length, by simp, Nat.zero_le _, B1, r1, O1, .refl, c1, .refl, e⟩, ?_⟩
  rintro i m σ2 H2 ⟨rfl, hi2, B2, r2, O2, s2, c2, b2, e2⟩
  have sv : Serves X.K lo J B1 ds := x1
  have same : Same B1 H2 := s2.sB.trans c2.sub
  by_cases hlt : i < ds.length
  · refine .inr ⟨sv.go i H2 hlt same, fun σ' H' => i + 1 ≤ ds.length ∧ ∃ B' r2 O', Step B1 H1 O1 B' H' O' ∧ Con X.K B' H' σ' r2 O' ∧ Bor r1 σ r2 σ' ∧ forS set mb (ds.drop (i + 1)) r2 = some (o, r'), fun σ' H' z => ⟨ds.length - (i + 1), by omega, rfl, z⟩, fun x H3 y => ?_⟩
    have ed : ds.drop i = ds[i] :: ds.drop (i + 1) := (List.drop_eq_getElem_cons hlt)
    rw [ed] at e2
    -- the item
    obtain ⟨B3, s3, c3, d3⟩ : ∃ B3, Step B2 H2 O2 B3 H3 O2 ∧ Con X.K B3 H3 σ2 r2 O2 ∧ (Dq X.K B3 x ds[i] ∨ (lo = true ∧ Dw X.K B3 x ds[i])) := by
      rcases sv.yld i H2 x H3 ds[i] (List.getElem?_eq_getElem hlt) same y B2 s2.sB c2.sub with ⟨rfl, d⟩ | ⟨hlo, T, vs, hT, rfl, d⟩
      · exact ⟨B2, .refl, c2, .inl d⟩
      · obtain ⟨c4, s4⟩ := c2.layF (o := .tup vs) hT
        exact ⟨_, s4, c4, .inr ⟨hlo, d⟩⟩
    simp only [forS] at e2
    cases q1 : set ds[i] r2 with
    | none => rw [q1] at e2; cases e2
    | some z1 =>
      obtain ⟨o1, r3⟩ := z1
      rw [q1] at e2
      cases o1 with
      | nx =>
        refine ⟨B3, r2, O2, ds[i], r3, c3, d3, q1, fun σ3 c4 b4 k4 l4 => ⟨B3, r3, O2, c4, ?_⟩⟩
        simp only at e2
        have s03 := s2.trans s3
        have b03 := b2.trans b4
        cases q2 : mb r3 with
        | none => rw [q2] at e2; cases e2
        | some z2 =>
          obtain ⟨o2, r4⟩ := z2
          rw [q2] at e2
          refine ⟨o2, r4, rfl, ?_⟩
          cases o2 with
          | nx => exact fun B' H' O' σ' s' c' b' => ⟨hlt, B', r4, O', s03.trans s', c', b03.trans b', e2⟩
          | cnt => exact fun B' H' O' σ' s' c' b' => ⟨hlt, B', r4, O', s03.trans s', c', b03.trans b', e2⟩
          | brk =>
            cases e2
            exact fun B' H' O' σ' s' c' b' => p B' H' O' σ' (s1.trans (s03.trans s')) c' (b1.trans (b03.trans b'))
          | ret v =>
            cases e2
            exact fun B' H' O' σ' x s' c' b' y => p B' H' O' σ' x (s1.trans (s03.trans s')) c' (b1.trans (b03.trans b')) (later_rV (G := Cx.g X) _ H3 B' H' O' σ' v x (fun a ha => (s03.live a) (s1.live a ha)) y)
          | rets j =>
            cases e2
            exact fun B' H' O' σ' x s' c' b' y => p B' H' O' σ' x (s1.trans (s03.trans s')) c' (b1.trans (b03.trans b')) y
          | exc ex =>
            cases e2
            exact fun B' H' O' σ' k dx s' c' b' y => p B' H' O' σ' k dx (s1.trans (s03.trans s')) c' (b1.trans (b03.trans b')) y
      | _ => cases e2
  · have ei : i = ds.length := by omega
    subst ei
    rw [List.drop_length] at e2
    cases e2
    exact .inl ⟨sv.stop H2 same, p B2 H2 O2 σ2 (s1.trans s2) c2 (b1.trans b2)⟩
end DL
end

section
namespace DL
open PySem PySem.Spec PyProof.Rows L2
theorem wipe_in {σ : L2.St} {i : Nat} {x : V} : ∀ {vs : List Nat}, i ∈ vs → (wipe σ vs)[i]? ≠ some (some x)
  | vs, h, e => (wipe_some e).2 h
theorem wipeR_len {r : Ro} : ∀ {vs : List Nat}, (wipeR r vs).length = r.length
  | [] => rfl
  | v :: vs => by
    show ((wipeR r vs).set v .non).length = _
    rw [List.length_set, wipeR_len]
theorem wipeR_out {r : Ro} {i : Nat} : ∀ {vs : List Nat}, i ∉ vs → (wipeR r vs)[i]? = r[i]?
  | [], _ => rfl
  | v :: vs, h => by
    simp only [List.mem_cons, not_or] at h
    show ((wipeR r vs).set v .non)[i]? = _
    rw [List.getElem?_set_ne (Ne.symm h.1), wipeR_out h.2]
theorem wipeR_in {r : Ro} {i : Nat} {x : Sl} : ∀ {vs : List Nat}, i ∈ vs → (wipeR r vs)[i]? = some x → x = .non
  | v :: vs, h, e => by
    have e : ((wipeR r vs).set v .non)[i]? = some x := e
    rcases get_set e with ⟨_, z⟩ | ⟨n, e⟩
    · exact z
    · rcases List.mem_cons.mp h with rfl | h
      · exact absurd rfl n
      · exact wipeR_in h e
/-- the slots vs are forgotten: they may stand as they like -/
theorem Con.wiped {K : PySem.W.Frag} {B H : Hp} {σ σ' : L2.St} {r : Ro} {O : Addr → Prop} (c : Con K B H σ r O) {vs : List Nat} (hl : σ'.length = σ.length) (hs : ∀ j : Nat, j ∉ vs → σ'[j]? = σ[j]?) : Con K B H σ' (wipeR r vs) O := by
  induction vs generalizing σ' with
  | nil =>
    have e : σ' = σ := List.ext_getElem? fun j => hs j (by simp)
    subst e
    exact c
  | cons v vs ih =>
    -- first all but v
    have c1 := ih (σ' := σ'.set v ((σ[v]?).getD none)) (by rw [List.length_set, hl]) fun j hj => by
      by_cases e : j = v
      · subst e
        by_cases hv : j < σ'.length
        · rw [List.getElem?_set_self hv]
          have : j < σ.length := by omega
          rw [List.getElem?_eq_getElem this]
          rfl
        · rw [List.getElem?_eq_none (by rw [List.length_set]; omega), List.getElem?_eq_none (by omega)]
      · rw [List.getElem?_set_ne (Ne.symm e)]
        exact hs j (by simp [e, hj])
    exact c1.replace (i := v) (x := .non) (by rw [List.length_set]) (fun j n => by rw [List.getElem?_set_ne (Ne.symm n)]) trivial (fun _ _ e => by cases e)
theorem bor_wipe {r : Ro} {σ σ' : L2.St} {vs : List Nat} (h : anyPin r vs = false) (hs : ∀ j : Nat, j ∉ vs → σ'[j]? = σ[j]?) : Bor r σ (wipeR r vs) σ' := fun i x hx px => by
  have hi : i ∉ vs := fun hm => by
    have : anyPin r vs = true := List.any_eq_true.mpr ⟨i, hm, by rw [hx]; cases x <;> exact px⟩
    rw [h] at this; cases this
  exact ⟨⟨x, by rw [wipeR_out hi]; exact hx, px⟩, hs i hi⟩
def DTs (X : Cx) (W : WX) (ifs : List Expr) (m : M Bool) : Prop := PTs X ifs (tG (Cx.g X) W m rB)
theorem dts_nil {X : Cx} {W : WX} : DTs X W [] mYes := ⟨fun pins s σ H Q I ⟨B, r, O, h⟩ => pts_nil.run pins s σ H Q I (h.ret rfl)⟩
theorem dts_one {X : Cx} {W : WX} {c : Expr} {m : M Bool} (h : DB X W c m) : DTs X W [c] m := pts_one h
abbrev W0 : WX := fun _ _ _ _ => False
/-- a slot list without the comprehension's own names -/
def Clear (r : Ro) (vs : List Nat) : Prop := ∀ i ∈ vs, ∀ x, r[i]? = some x → x = Sl.non
theorem clear_wipe {r : Ro} {vs : List Nat} (h : Clear r vs) : wipeR r vs = r := by
  apply List.ext_getElem?
  intro j
  by_cases hj : j ∈ vs
  · cases q : r[j]? with
    | none => rw [List.getElem?_eq_none_iff] at q ⊢; rw [wipeR_len]; exact q
    | some x =>
      rw [h j hj x q]
      cases q2 : (wipeR r vs)[j]? with
      | none =>
        rw [List.getElem?_eq_none_iff, wipeR_len] at q2
        rw [List.getElem?_eq_none_iff.mpr q2] at q
        cases q
      | some y => rw [wipeR_in hj q2]
  · exact wipeR_out hj
theorem bor_wipe2 {r1 r4 : Ro} {σ σ2 σ' : L2.St} {vs : List Nat} (h : anyPin r1 vs = false) (b : Bor r1 σ r4 σ2) (hs : ∀ j : Nat, j ∉ vs → σ'[j]? = σ[j]?) : Bor r1 σ (wipeR r4 vs) σ' := fun i x hx px => by
  have hi : i ∉ vs := fun hm => by
    have : anyPin r1 vs = true := List.any_eq_true.mpr ⟨i, hm, by rw [hx]; cases x <;> exact px⟩
    rw [h] at this; cases this
  obtain ⟨⟨y, h1, h2⟩, h3⟩ := b i x hx px
  exact ⟨⟨y, by rw [wipeR_out hi]; exact h1, h2⟩, hs i hi⟩
section
variable {X : Cx} {W : WX}
theorem lc_read {lo : Bool} {mi : M (List D)} {vs ix : List Nat} {set : D → S} {t : M Bool} {me : M RV} (hix : ∀ j ∈ ix, j ∈ vs) {σ : L2.St} {H : Hp} {Q : VK} (h : tG (Cx.g X) W (mLc vs mi set t me) (rV (Cx.g X)) σ H Q) :
    tLc (tG (Cx.g X) W mi (rI (Cx.g X) lo)) (gD X.K lo ix set) (tG (Cx.g X) W0 t rB) (tG (Cx.g X) W0 me (rV (Cx.g X))) vs σ H Q := by
  obtain ⟨B, r, O, h⟩ := h
  refine tG.of ((h.bind later_rV (R := rI (Cx.g X) lo)).mono ?_)
  rintro J H1 ⟨ds, B1, r1, O1, s1, x1, c1, o, r', e, p⟩
  intro D hD
  have sv : Serves X.K lo J B1 ds := x1
  simp only at e
  split at e
  · cases e
  · rename_i np
    have np : anyPin r1 vs = false := by simpa using np
    cases q : lcM vs set t me ds [] (wipeR r1 vs) with
    | none => rw [q] at e; cases e
    | some z =>
      obtain ⟨xs, rf⟩ := z
      rw [q] at e
      cases e
      obtain ⟨bD, nD, c2, s2⟩ := c1.lay (o := .lst []) hD
      have wl := wipe_length σ vs
      have wo : ∀ j : Nat, j ∉ vs → (wipe σ vs)[j]? = σ[j]? := fun j hj => wipe_out hj
      refine ⟨fun i m H' => m = ds.length - i ∧ i ≤ ds.length ∧ ∃ B' r2 O' acc ad, Step B1 H1 O1 B' H' O' ∧ Con X.K B' H' (wipe σ vs) r2 O' ∧ Clear r2 vs ∧ Bor r1 σ r2 (wipe σ vs) ∧ H' D = some (.lst acc) ∧ DqAll X.K B' acc ad ∧ B' D = none ∧ ¬ O' D ∧ lcM vs set t me (ds.drop i) ad r2 = some (xs, rf),
        ⟨ds.length, by simp, Nat.zero_le _, B1, _, O1, [], [], s2, c2.wiped wl wo, fun i hi x hx => wipeR_in hi hx, bor_wipe np wo, upd_same, .nil, bD, nD, q⟩, ?_⟩
      rintro i m H2 ⟨rfl, hi2, B2, r2, O2, acc, ad, s3, c3, k3, b3, hA, hQ, bD2, nD2, e2⟩
      have same : Same B1 H2 := s3.sB.trans c3.sub
      by_cases hlt : i < ds.length
      · refine .inr ⟨sv.go i H2 hlt same, fun H' => i + 1 ≤ ds.length ∧ ∃ B' r2 O' acc ad, Step B1 H1 O1 B' H' O' ∧ Con X.K B' H' (wipe σ vs) r2 O' ∧ Clear r2 vs ∧ Bor r1 σ r2 (wipe σ vs) ∧ H' D = some (.lst acc) ∧ DqAll X.K B' acc ad ∧ B' D = none ∧ ¬ O' D ∧ lcM vs set t me (ds.drop (i + 1)) ad r2 = some (xs, rf),
          fun H' z => ⟨ds.length - (i + 1), by omega, rfl, z⟩, fun x H3 y => ?_⟩
        have ed : ds.drop i = ds[i] :: ds.drop (i + 1) := (List.drop_eq_getElem_cons hlt)
        rw [ed] at e2
        obtain ⟨B3, s4, c4, d4⟩ : ∃ B3, Step B2 H2 O2 B3 H3 O2 ∧ Con X.K B3 H3 (wipe σ vs) r2 O2 ∧ (Dq X.K B3 x ds[i] ∨ (lo = true ∧ Dw X.K B3 x ds[i])) := by
          rcases sv.yld i H2 x H3 ds[i] (List.getElem?_eq_getElem hlt) same y B2 s3.sB c3.sub with ⟨rfl, d⟩ | ⟨hlo, T, ws, hT, rfl, d⟩
          · exact ⟨B2, .refl, c3, .inl d⟩
          · obtain ⟨c5, s5⟩ := c3.layF (o := .tup ws) hT
            exact ⟨_, s5, c5, .inr ⟨hlo, d⟩⟩
        simp only [lcM] at e2
        cases q1 : set ds[i] r2 with
        | none => rw [q1] at e2; cases e2
        | some z1 =>
          obtain ⟨o1, r3⟩ := z1
          rw [q1] at e2
          cases o1 with
          | nx =>
            refine ⟨B3, r2, O2, ds[i], r3, c4, d4, q1, fun σ2 c5 b5 k5 l5 => ⟨?_, ?_⟩⟩
            · apply List.ext_getElem?
              intro j
              by_cases hj : j ∈ vs
              · by_cases hl : j < σ.length
                · have g : ∀ τ : L2.St, τ.length = σ.length → (wipe τ vs)[j]? = some none := fun τ hτ => by
                    cases qq : (wipe τ vs)[j]? with
                    | none => rw [List.getElem?_eq_none_iff, wipe_length] at qq; omega
                    | some w => cases w with
                      | none => rfl
                      | some w => exact absurd qq (wipe_in hj)
                  rw [g σ rfl, g σ2 (l5.trans wl)]
                · rw [List.getElem?_eq_none (by rw [wipe_length, l5, wl]; omega), List.getElem?_eq_none (by rw [wl]; omega)]
              · rw [wipe_out hj, wipe_out hj, k5 j (fun z => hj (hix j z)), wipe_out hj]
            · simp only at e2
              cases q2 : t r3 with
              | none => rw [q2] at e2; cases e2
              | some z2 =>
                obtain ⟨o2, r4⟩ := z2
                rw [q2] at e2
                refine ⟨B3, r3, O2, c5, o2, r4, q2, ?_⟩
                cases o2 with
                | exc x => cases e2
                | ok b =>
                  intro B5 H5 O5 b' s6 c6 b6 hb'
                  cases hb'
                  have s36 : Step B1 H1 O1 B5 H5 O5 := (s3.trans s4).trans s6
                  have hA3 : H3 D = some (.lst acc) := s4.keep D _ hA nD2
                  have bD3 : B3 D = none := s4.nB D (by rw [hA]; simp) nD2 bD2
                  have hA5 : H5 D = some (.lst acc) := s6.keep D _ hA3 nD2
                  have bD5 : B5 D = none := s6.nB D (by rw [hA3]; simp) nD2 bD3
                  have nD5 : ¬ O5 D := fun z => by
                    rcases s6.nO D z with z | z
                    · exact nD2 z
                    · rw [hA3] at z; cases z
                  cases b with
                  | false =>
                    exact iteF ⟨hlt, B5, wipeR r4 vs, O5, acc, ad, s36, c6.wiped (wl.trans (l5.trans wl).symm |>.trans rfl) fun j hj => (k5 j fun z => hj (hix j z)).symm, fun i hi x hx => wipeR_in hi hx, bor_wipe2 np (b3.trans (b5.trans b6)) wo, hA5, dqa_same' s4 s6 hQ, bD5, nD5, e2⟩
                  | true =>
                    simp only at e2
                    cases q3 : mFz me r4 with
                    | none => rw [q3] at e2; cases e2
                    | some z3 =>
                      obtain ⟨o3, r5⟩ := z3
                      rw [q3] at e2
                      cases o3 with
                      | exc x => cases e2
                      | ok d =>
                        simp only at e2
                        split at e2
                        · rename_i hz
                          refine iteT (tG.of (At.froz ⟨c6, .ok d, r5, q3, fun B6 H6 O6 y6 s7 c7 b7 d7 => ?_⟩))
                          have hA6 : H6 D = some (.lst acc) := s7.keep D _ hA5 nD5
                          have bD6 : B6 D = none := s7.nB D (by rw [hA5]; simp) nD5 bD5
                          have nD6 : ¬ O6 D := fun z => by
                            rcases s7.nO D z with z | z
                            · exact nD5 z
                            · rw [hA5] at z; cases z
                          have qa := dpa_same s7.sB (dqa_same' s4 s6 hQ)
                          refine ⟨acc, hA6, by rw [qa.length, ← line_eq]; exact hz, hlt, ?_⟩
                          -- the new list grows: it is nobody's
                          have c8 : Con X.K B6 (upd H6 D (.lst (acc ++ [y6]))) σ2 r5 O6 := c7.mono (Same.refl _) (fun a w ha => by
                            by_cases z : a = D
                            · subst z; rw [bD6] at ha; cases ha
                            · rw [upd_ne z]; exact c7.sub a w ha) (fun a ha => upd_ne (show a ≠ D from fun z => nD6 (by rw [← z]; exact ha))) c7.off
                          have s37 := s36.trans s7
                          have s9 : Step B1 H1 O1 B6 (upd H6 D (.lst (acc ++ [y6]))) O6 := ⟨s37.sB, fun a w ha na => by
                            rw [upd_ne (ne_of_none ha hD)]
                            exact s37.keep a w ha na, fun a ha => by
                            by_cases z : a = D
                            · subst z; rw [upd_same]; simp
                            · rw [upd_ne z]; exact s37.live a ha, s37.nB, s37.nO⟩
                          exact ⟨B6, wipeR r5 vs, O6, acc ++ [y6], ad ++ [d], s9, c8.wiped (wl.trans (l5.trans wl).symm |>.trans rfl) fun j hj => (k5 j fun z => hj (hix j z)).symm, fun i hi x hx => wipeR_in hi hx, bor_wipe2 np (b3.trans (b5.trans (b6.trans b7))) wo, upd_same, qa.append (.cons d7 .nil), bD6, nD6, e2⟩
                        · cases e2
          | _ => cases e2
      · have ei : i = ds.length := by omega
        subst ei
        rw [List.drop_length] at e2
        cases e2
        refine .inl ⟨sv.stop H2 same, p B2 H2 O2 (.ref D) s3 ?_ (fun i x hx px => ⟨(b3 i x hx px).1, rfl⟩) ⟨D, [D], rfl, ⟨rfl, acc, hA, hQ⟩, fun a ha => ?_⟩⟩
        · have c9 := c3.wiped (σ' := σ) wl.symm fun j hj => (wo j hj).symm
          rw [clear_wipe k3] at c9
          exact c9
        · simp at ha
          subst ha
          exact ⟨hD, bD2, nD2⟩
where
  dqa_same' {K : PySem.W.Frag} {B2 H2 B3 H3 B5 H5 : Hp} {O2 O3 O5 : Addr → Prop} {acc : List V} {ad : List D} (s4 : Step B2 H2 O2 B3 H3 O3) (s6 : Step B3 H3 O3 B5 H5 O5) (h : DqAll K B2 acc ad) : DqAll K B5 acc ad := dpa_same s6.sB (dpa_same s4.sB h)
/-- [elt for target in iter if ..] -/
theorem de_lc {lo : Bool} {elt tg iter : Expr} {ifs : List Expr} {scope : Scope} {own : List (Str × Nat)} {pos : Pos} {mi : M (List D)} {ix : List Nat} {set : D → S} {t : M Bool} {me : M RV} (hc : X.calm = true) (hN : X.N.Nodup) (hi : DI X W lo tg iter mi) (ok : BlkOk X.N X.env.scope scope own)
    (hg : ∀ (s : Shared) (H : Hp) (C : Addr) (cl : List (Str × Addr)) (fp : List Addr), DG (X.blk s H scope (compEnvC scope cl C X.env) fp) lo tg ix set) (ht : ∀ (s : Shared) (H : Hp) (C : Addr) (cl : List (Str × Addr)) (fp : List Addr), DTs (X.blk s H scope (compEnvC scope cl C X.env) fp) W0 ifs t)
    (he : ∀ (s : Shared) (H : Hp) (C : Addr) (cl : List (Str × Addr)) (fp : List Addr), DE (X.blk s H scope (compEnvC scope cl C X.env) fp) W0 elt me) (hix : ∀ j ∈ ix, j ∈ own.map (·.2)) (hs : ∀ x, foldedSetIterable iter X.env x = pure x := by intro _; rfl) :
    DE X W (.ListComp elt [⟨tg, iter, ifs, 0⟩] scope pos) (mLc (own.map (·.2)) mi set t me) :=
  pe_weak (pe_lc (g := gD X.K lo ix set) (tt := tG (Cx.g X) W0 t rB) (te := tG (Cx.g X) W0 me (rV (Cx.g X))) hc hN hi ok hg ht he hs) fun σ H Q h => lc_read hix h
theorem serves_list {lo : Bool} {K : PySem.W.Frag} {B0 : Hp} {a : Addr} {xs : List V} {ds : List D} (h : SqL K B0 a xs) (d : DqAll K B0 xs ds) : Serves K lo (Itl K a) B0 ds := by
  refine ⟨fun H s => ⟨xs, s.seq h, by rw [d.length]; exact Nat.le_refl _⟩, fun i H hi s => ?_, fun i H x H' e he s y B b1 b2 => ?_⟩
  · rw [← d.length] at hi
    exact ⟨xs, xs[i], s.seq h, List.getElem?_eq_getElem hi⟩
  · obtain ⟨rfl, y⟩ := y
    obtain ⟨v, h1, h2⟩ := d.get he
    have := y xs (s.seq h)
    rw [h1] at this; cases this
    exact .inl ⟨rfl, dp_same b1 h2⟩
theorem serves_tup {lo : Bool} {K : PySem.W.Frag} {B0 : Hp} {a : Addr} {xs : List V} {ds : List D} (h : SqT K B0 a xs) (d : DqAll K B0 xs ds) : Serves K lo (Itt K a) B0 ds := by
  refine ⟨fun H s => ⟨xs, sqt_same s h, by rw [d.length]; exact Nat.le_refl _⟩, fun i H hi s => ?_, fun i H x H' e he s y B b1 b2 => ?_⟩
  · rw [← d.length] at hi
    exact ⟨xs, xs[i], sqt_same s h, List.getElem?_eq_getElem hi⟩
  · obtain ⟨rfl, y⟩ := y
    obtain ⟨v, h1, h2⟩ := d.get he
    have := y xs (sqt_same s h)
    rw [h1] at this; cases this
    exact .inl ⟨rfl, dp_same b1 h2⟩
theorem serves_range {lb : Bool} {K : PySem.W.Frag} {B0 : Hp} {lo hi : Int} : Serves K lb (Itr lo (hi - lo).toNat) B0 (rng lo hi) := by
  have hl : (rng lo hi).length = (hi - lo).toNat := by simp [rng]
  refine ⟨fun H s => by show (hi - lo).toNat ≤ _; rw [hl]; exact Nat.le_refl _, fun i H h s => by rw [hl] at h; exact h, fun i H x H' e he s y B b1 b2 => ?_⟩
  obtain ⟨rfl, rfl⟩ := y
  have hi' : i < (hi - lo).toNat := by
    rw [← hl]; exact (List.getElem?_eq_some_iff.mp he).1
  have : e = .int (lo + i) := by
    simp only [rng, List.getElem?_map, List.getElem?_range hi', Option.map_some, Option.some.injEq] at he
    exact he.symm
  subst this
  exact .inl ⟨rfl, .int _⟩
/-- a list or a tuple -/
theorem pi_seq {tg l : Expr} {tl : TE} (hl : PE X l tl) : PI X tg l (fun σ H R => tl σ H fun x H1 => (∃ a, x = .ref a ∧ (∃ xs, SqL X.K H1 a xs) ∧ R (Itl X.K a) H1) ∨ ∃ a, x = .ref a ∧ (∃ xs, SqT X.K H1 a xs) ∧ R (Itt X.K a) H1) := by
  refine ⟨fun pins s σ H R I h => ?_⟩
  refine thn (hl.run pins s σ H _ I h) fun v s1 ⟨x, H1, I1, r1, q1⟩ => ?_
  rcases q1 with ⟨a, e, ⟨xs, hq⟩, q⟩ | ⟨a, e, ⟨xs, hq⟩, q⟩
  · subst e
    cases r1
    obtain ⟨its, rv, p, hz⟩ := I1.list hq
    refine wpAny_pyIter_list p.isList ?_
    refine ⟨s1.heap.objs.size, [s1.heap.objs.size], _, _, H1, rfl, I1.kept (t' := s1.toks) fun b o e => Heap.get?_push_of_some _ e, turn_list a _, ⟨_, Heap.get?_push_size _ rfl, rfl, rfl⟩, fun b hb => ?_, q⟩
    have e : b = s1.heap.objs.size := by simpa using hb
    subst e
    exact I1.fpOk (Nat.le_refl _) (I1.hok.fresh (Nat.le_refl _))
  · subst e
    cases r1
    obtain ⟨its, rv, p, hz⟩ := I1.tuple hq
    refine wpAny_pyIter_tuple (show s1.heap.IsTuple a its.toArray from p) ?_
    refine ⟨s1.heap.objs.size, [s1.heap.objs.size], _, _, H1, rfl, I1.kept (t' := s1.toks) fun b o e => Heap.get?_push_of_some _ e, turn_tuple a _, ⟨_, Heap.get?_push_size _ rfl, rfl, rfl⟩, fun b hb => ?_, q⟩
    have e : b = s1.heap.objs.size := by simpa using hb
    subst e
    exact I1.fpOk (Nat.le_refl _) (I1.hok.fresh (Nat.le_refl _))
theorem di_seq {lo : Bool} {tg e : Expr} {m : M RV} (h : DE X W e m) : DI X W lo tg e (mRow m) := pi_weak (pi_seq h) fun σ H R ⟨B, r, O, h⟩ => by
  refine tG.of (At.froz ((h.bind later_rI (R := rD (Cx.g X))).mono ?_))
  rintro v H1 ⟨d, B1, r1, O1, s1, dp, h1⟩
  have dp : Dq X.K B1 v d := dp
  obtain ⟨c, o, r', e, p⟩ := h1
  cases q : rowOf d with
  | none => rw [q] at e; cases e
  | some ds =>
    rw [q] at e
    cases e
    rcases row_of q with rfl | rfl
    · obtain ⟨a, xs, rfl, hs, ha⟩ := dp_list dp
      exact .inl ⟨a, rfl, ⟨xs, .of (c.sub _ _ hs)⟩, p B1 H1 O1 _ .refl c .refl (serves_list (.of hs) ha)⟩
    · obtain ⟨a, xs, rfl, hs, ha⟩ := dp_tuple dp
      exact .inr ⟨a, rfl, ⟨xs, (tup_same c.sub hs).sq⟩, p B1 H1 O1 _ .refl c .refl (serves_tup hs.sq ha)⟩
end
end DL
end

section
namespace DL
open PySem PySem.Spec PyProof.Rows L2
section
variable {K : PySem.W.Frag} {mg : Str → Option Value} {B H B' H' : Hp} {xs : List Rs} {vs : List V} {O O' : Addr → Prop}
theorem start_get {N : List Str} {k : Nat} (h : k < vs.length) : (start N vs)[k]? = (vs.map some)[k]? := by
  unfold L2.start
  rw [List.getElem?_append_left (by simpa using h)]
theorem pad_get {r : Ro} {m k : Nat} {x : Sl} (h : (r ++ List.replicate m Sl.non)[k]? = some x) (n : x ≠ .non) : r[k]? = some x := by
  by_cases hk : k < r.length
  · rw [List.getElem?_append_left hk] at h; exact h
  · rw [List.getElem?_append_right (by omega), List.getElem?_replicate] at h
    split at h
    · cases h; exact absurd rfl n
    · cases h
theorem Con.pad {N : List Str} (c : Con K B H (vs.map some) (xs.map toSl) O) (hN : vs.length ≤ N.length) : Con K B H (start N vs) (xs.map toSl ++ List.replicate (N.length - vs.length) .non) O := by
  have hl : xs.length = vs.length := by have := c.len; simpa using this
  have hs : ∀ (k : Nat) (x : Sl), x ≠ .non → (xs.map toSl ++ List.replicate (N.length - vs.length) Sl.non)[k]? = some x → (xs.map toSl)[k]? = some x ∧ (start N vs)[k]? = (vs.map some)[k]? := fun k x n e => by
    have e' := pad_get e n
    refine ⟨e', start_get ?_⟩
    have := (List.getElem?_eq_some_iff.mp e').1
    rw [List.length_map] at this
    omega
  refine ⟨⟨c.sub, c.off, c.liv, ?_, fun i b d e => ?_, fun i b ct e => ?_, fun i j b c1 b' c2 l l' F F' ne e1 e2 s1 s2 o1 o2 => ?_⟩, fun i j k h => ?_⟩
  · unfold L2.start
    simp [hl]
  · obtain ⟨e', q⟩ := hs i _ (by simp) e
    rw [q]
    exact c.frz i b d e'
  · obtain ⟨e', q⟩ := hs i _ (by simp) e
    rw [q]
    exact c.own i b ct e'
  · obtain ⟨e1', q1⟩ := hs i _ (by simp) e1
    obtain ⟨e2', q2⟩ := hs j _ (by simp) e2
    rw [q1] at s1
    rw [q2] at s2
    exact c.sep i j b c1 b' c2 l l' F F' ne e1' e2' s1 s2 o1 o2
  · obtain ⟨h', _⟩ := hs i _ (by simp) h
    rw [List.getElem?_map] at h'
    cases q : xs[i]? with
    | none => rw [q] at h'; cases h'
    | some x => rw [q] at h'; cases x <;> cases h'
theorem outs_len : ∀ {xs : List Rs} {k : Nat} {r : Ro}, (outs xs k r).length = xs.length
  | [], _, _ => rfl
  | .fz _ :: xs, k, r => by simp [outs, outs_len]
  | .ow _ :: xs, k, r => by simp [outs, outs_len]
theorem outs_get {r : Ro} {c : Ct} : ∀ {xs : List Rs} {k j : Nat}, xs[j]? = some (Rs.ow c) → (outs xs k r)[j]? = some (match r[k + j]? with
      | some (.own _ c') => .ow c'
      | some (.frz _ d) => .fz d
      | _ => .ow c)
  | [], _, _, h => by simp at h
  | x :: xs, k, 0, h => by
    simp at h
    subst h
    simp only [outs, Nat.add_zero, List.getElem?_cons_zero]
    try rfl
  | x :: xs, k, j + 1, h => by
    have ih := outs_get (r := r) (c := c) (xs := xs) (k := k + 1) (j := j) (by simpa using h)
    rw [show k + 1 + j = k + (j + 1) by omega] at ih
    cases x <;> simpa only [outs, List.getElem?_cons_succ] using ih
/-- the arguments behind a def's body -/
theorem exit_con {σ0 σ' : L2.St} {r' : Ro} {m : Nat} (c : Con K B H (vs.map some) (xs.map toSl) O) (sB : Same B B') (h0 : ∀ k, k < vs.length → σ0[k]? = (vs.map some)[k]?) (c' : Con K B' H' σ' r' O') (b : Bor (xs.map toSl ++ List.replicate m .non) σ0 r' σ') :
    Con K B' H' (vs.map some) (List.zipWith exitSl xs (outs xs 0 r')) O' := by
  have hl : xs.length = vs.length := by have := c.len; simpa using this
  -- what stands at each place
  have at_ : ∀ (k : Nat) (x : Sl), (List.zipWith exitSl xs (outs xs 0 r'))[k]? = some x → (∃ d, x = .frz false d ∧ (xs.map toSl)[k]? = some (.frz false d)) ∨ (r'[k]? = some x ∧ σ'[k]? = (vs.map some)[k]?) := by
    intro k x e
    rw [List.getElem?_zipWith] at e
    cases q : xs[k]? with
    | none => rw [q] at e; cases e
    | some y =>
      rw [q] at e
      have hk : k < xs.length := (List.getElem?_eq_some_iff.mp q).1
      cases y with
      | fz d =>
        cases q2 : (outs xs 0 r')[k]? with
        | none => rw [q2] at e; cases e
        | some z =>
          rw [q2] at e
          cases e
          exact .inl ⟨d, rfl, by rw [List.getElem?_map, q]; rfl⟩
      | ow ct =>
        rw [outs_get (c := ct) q, Nat.zero_add] at e
        have hr : (xs.map toSl ++ List.replicate m Sl.non)[k]? = some (Sl.own true ct) := by
          rw [List.getElem?_append_left (by simpa using hk), List.getElem?_map, q]; rfl
        obtain ⟨⟨y, h1, h2⟩, h3⟩ := b k _ hr rfl
        refine .inr ⟨?_, by rw [h3]; exact h0 k (by omega)⟩
        rw [h1] at e ⊢
        cases y with
        | non => cases h2
        | al _ _ => cases h2
        | frz b2 d =>
          have h2 : b2 = true := h2
          subst h2
          exact e
        | own b2 c2 =>
          have h2 : b2 = true := h2
          subst h2
          exact e
  refine ⟨⟨c'.sub, c'.off, c'.liv, by rw [List.length_zipWith, outs_len, Nat.min_self, hl, List.length_map], fun i b d e => ?_, fun i b ct e => ?_, fun i j b c1 b' c2 l l' F F' ne e1 e2 s1 s2 o1 o2 => ?_⟩, fun i j k h => ?_⟩
  · rcases at_ i _ e with ⟨d', h1, h2⟩ | ⟨h1, h2⟩
    · cases h1
      obtain ⟨v, g1, g2⟩ := c.frz i false d h2
      exact ⟨v, g1, dp_same sB g2⟩
    · rw [← h2]
      exact c'.frz i b d h1
  · rcases at_ i _ e with ⟨d', h1, h2⟩ | ⟨h1, h2⟩
    · cases h1
    · rw [← h2]
      exact c'.own i b ct h1
  · rcases at_ i _ e1 with ⟨d', h1, h2⟩ | ⟨h1, h2⟩
    · cases h1
    · rcases at_ j _ e2 with ⟨d', h3, h4⟩ | ⟨h3, h4⟩
      · cases h3
      · rw [← h2] at s1
        rw [← h4] at s2
        exact c'.sep i j b c1 b' c2 l l' F F' ne h1 h3 s1 s2 o1 o2
  · rw [List.getElem?_zipWith] at h
    cases q : xs[i]? with
    | none => rw [q] at h; cases h
    | some x =>
      cases q2 : (outs xs 0 r')[i]? with
      | none => rw [q, q2] at h; cases h
      | some y => rw [q, q2] at h; cases x <;> first | cases h | (cases y <;> cases h)
/-- a def's body read from its promise -/
theorem def_read {N : List Str} {n : Nat} {body : S} {Q : VK} {E : XK} (hn : n ≤ N.length) (h : spD K mg (defSem n N.length body) n vs H Q E) :
    tS ⟨K, mg⟩ (fun c d _ H => E c d H) body { nx := fun _ H' => Q .non H', rt := Q } (start N vs) H := by
  obtain ⟨hv, B, O, xs, c, o, ys, e, hy, p⟩ := h
  have hl : xs.length = vs.length := by have := c.len; simpa using this
  unfold defSem at e
  rw [if_pos (by omega)] at e
  have cp := c.pad (N := N) (by omega)
  rw [hv] at cp
  have ex : ∀ {B' H' O' σ' r'}, Same B B' → Con K B' H' σ' r' O' → Bor (xs.map toSl ++ List.replicate (N.length - n) .non) (start N vs) r' σ' → Con K B' H' (vs.map some) (List.zipWith exitSl xs (outs xs 0 r')) O' :=
    fun sB c' b => exit_con c sB (fun k hk => start_get hk) c' b
  by_cases hz : allFz xs = true
  · -- nothing was lent
    have noOwn : ∀ (ys : List Rs), allFz ys = true → ∀ (m i : Nat) b ct, (ys.map toSl ++ List.replicate m Sl.non)[i]? = some (Sl.own b ct) → False := by
      intro ys
      induction ys with
      | nil =>
        intro _ m i b ct h
        simp [List.getElem?_replicate] at h
      | cons y ys ih =>
        intro h m i b ct h2
        cases y with
        | fz d =>
          cases i with
          | zero => cases h2
          | succ i => exact ih h m i b ct (by simpa using h2)
        | ow c => cases h
    have cp0 := cp.shrink (O' := fun _ => False) (fun _ h => h.elim) fun i b ct l F e _ _ => (noOwn xs hz _ i b ct e).elim
    have up : ∀ {B' H' : Hp} {O' : Addr → Prop}, Step B H (fun _ => False) B' H' O' → Step B H O B' H' O' := fun s => ⟨s.sB, fun a o h _ => s.keep a o h (fun z => z), s.live, fun a h _ => s.nB a h (fun z => z), fun a h => (s.nO a h).elim (fun z => z.elim) .inr⟩
    refine ⟨B, _, _, cp0, ?_⟩
    cases q : body (xs.map toSl ++ List.replicate (N.length - n) .non) with
    | none => rw [q] at e; cases e
    | some z =>
      obtain ⟨so, r'⟩ := z
      rw [q] at e
      refine ⟨so, r', rfl, ?_⟩
      cases so with
      | nx =>
        cases e
        exact fun B' H' O' σ' s c' b => p B' H' O' .non (up s) (ex s.sB c' b) .non
      | ret v =>
        cases e
        exact fun B' H' O' σ' x s c' b rv => p B' H' O' x (up s) (ex s.sB c' b) rv
      | rets i =>
        simp only [handOn] at e
        split at e
        · rename_i c q2
          rw [if_pos hz] at e
          cases e
          intro B' H' O' σ' x s c' b hx
          obtain ⟨l, F, h1, h2, h3⟩ := c'.own i _ _ q2
          rw [hx] at h1
          cases h1
          have c2 := c'.release q2 hx h2
          have b2 : Bor (xs.map toSl ++ List.replicate (N.length - n) .non) (start N vs) (r'.set i .non) σ' := b.trans (bor_set q2 fun z => by cases z)
          refine p B' H' (fun a => O' a ∧ a ∉ F) _ ⟨s.sB, fun a o h _ => s.keep a o h (fun z => z), s.live, fun a h _ => s.nB a h (fun z => z), fun a h => (s.nO a h.1).elim (fun z => z.elim) .inr⟩ (ex s.sB c2 b2) ⟨l, F, rfl, h2, fun a ha => ⟨?_, c'.off a (h3 a ha), fun z => z.2 ha⟩⟩
          exact (s.nO a (h3 a ha)).elim (fun z => z.elim) (fun z => z)
        · cases e
      | exc x =>
        cases e
        exact fun B' H' O' σ' k dx s c' b rx => p B' H' O' k dx (up s) (ex s.sB c' b) rx
      | brk => cases e
      | cnt => cases e
  refine ⟨B, _, O, cp, ?_⟩
  cases q : body (xs.map toSl ++ List.replicate (N.length - n) .non) with
  | none => rw [q] at e; cases e
  | some z =>
    obtain ⟨so, r'⟩ := z
    rw [q] at e
    refine ⟨so, r', rfl, ?_⟩
    cases so with
    | nx =>
      cases e
      exact fun B' H' O' σ' s c' b => p B' H' O' .non s (ex s.sB c' b) .non
    | ret v =>
      cases e
      exact fun B' H' O' σ' x s c' b rv => p B' H' O' x s (ex s.sB c' b) rv
    | rets i =>
      simp only [handOn] at e
      split at e
      · rw [if_neg hz] at e
        cases e
      · cases e
    | exc x =>
      cases e
      exact fun B' H' O' σ' k dx s c' b rx => p B' H' O' k dx s (ex s.sB c' b) rx
    | brk => cases e
    | cnt => cases e
end
/-- a def keeps its promise by its body's meaning -/
theorem def_ok {P : Program} {w : World} {K : PySem.W.Frag} {mg : Str → Option Value} {base : Heap} {x qual : Str} {st : Stmt} {f : Addr} {fd : FuncData} {N ps : List Str} {k : Nat} {body : S} (F : Fun K x qual st f fd) (Sc : FnScope N ps (defScope st)) (hn : ps.length ≤ N.length)
    (hb : ∀ (cdv : Value) (A : Around) (outer : List Env) (s : Shared) (H : Hp) (E : XK), Room k (A.deeper (envOfC qual (defScope st) s.heap.objs.size f cdv)) →
      L2N.Takes (cxOf (L2N.CX P w) P w K mg base N qual (defScope st) f cdv A outer s H E) (fun c d _ H => E c d H) →
      DSs (cxOf (L2N.CX P w) P w K mg base N qual (defScope st) f cdv A outer s H E) (fun c d _ H => E c d H) (defBody st) body) :
    FnOk P w K mg base (L2N.CX P w) (k + 1) f fd ps (spD K mg (defSem ps.length N.length body) ps.length) := by
  obtain ⟨oc, od, kV, doc, pm, an, cdv, ct, osl, rfl, lk, hcd⟩ := F.ex
  exact fn_of lk hcd Sc (fun vs H Q E h => h.1) fun A outer s H vs Q E hr h => ⟨_, hb cdv A outer s H E hr (L2N.takes_of rfl rfl rfl rfl), def_read hn h⟩
end DL
end

section
namespace DL
open PySem
/-- the list in slot i (or looked at by it) is changed -/
def updSl (r : Ro) (i : Nat) (ds : List D) : Ro := match r[i]? with
  | some (.own b _) => r.set i (.own b (.lst ds))
  | some (.al j k) => match r[j]? with
    | some (.own b (.ll rows)) => r.set j (.own b (.ll (rows.set k ds)))
    | _ => r
  | _ => r
def listAt (r : Ro) (i : Nat) : Option (List D) := match look2 r (.slot i) with
  | some (.ow (.lst ds)) => some ds
  | _ => none
/-- x.m(..) that changes the list x -/
def mMut (g : List D → List D → Option (List D × D)) (i : Nat) (ms : List (M AV)) : M RV := fun r => match listAt r i with
  | none => none
  | some _ => (oL ms).bind (fun as => fun r => match listAt r i, looks2 r as with
    | some ds, some xs => match dataAll xs with
      | some es => (g ds es).map fun p => (.ok (.val p.2), updSl r i p.1)
      | none => none
    | _, _ => none) r
def gAppend : List D → List D → Option (List D × D)
  | ds, [d] => if ds.length < lineD then some (ds ++ [d], .none) else none
  | _, _ => none
def gPop : List D → List D → Option (List D × D)
  | ds, [] => ds[ds.length - 1]?.map fun d => (ds.dropLast, d)
  | ds, [.int i] => if -(2 ^ 63) ≤ i ∧ i < 2 ^ 63 then (ixD ds.length i).bind fun k => ds[k]?.map fun d => (ds.eraseIdx k, d) else none
  | _, _ => none
/-- x[i] = e of a list -/
def sSub (i : Nat) (me : M RV) (mi : M AV) : S := sEx (mFz me) fun d => fun r => match listAt r i with
  | none => none
  | some _ => sEx mi (fun a => fun r => match listAt r i, (look2 r a).bind Rs.data with
    | some ds, some (.int n) => (ixD ds.length n).map fun k => (.nx, updSl r i (ds.set k d))
    | _, _ => none) r
/-- a, b = e, f -/
def sPar (i j : Nat) (m n : M RV) : S := sEx (mFz m) fun d => sEx (mFz n) fun e => sSeq (putSl i (.val d)) (putSl j (.val e))
def whN (t : M Bool) (body : S) : Nat → S
  | 0 => fun _ => none
  | n + 1 => fun r => match t r with
    | none => none
    | some (.exc x, r1) => some (.exc x, r1)
    | some (.ok false, r1) => some (.nx, r1)
    | some (.ok true, r1) => match body r1 with
      | some (.nx, r2) => whN t body n r2
      | some (.cnt, r2) => whN t body n r2
      | some (.brk, r2) => some (.nx, r2)
      | z => z
open Classical in
noncomputable def sWhile (t : M Bool) (body : S) : S := fun r => if h : ∃ n, whN t body n r ≠ none then whN t body (Classical.choose h) r else none
/-- x[lo:hi] -/
def sIxD (n d : Nat) : Option Int → Nat
  | none => d
  | some v => if v < 0 then (v + n).toNat else min v.toNat n
def cutD {α : Type} (xs : List α) (lo hi : Option Int) : List α := (xs.drop (sIxD xs.length 0 lo)).take (sIxD xs.length xs.length hi - sIxD xs.length 0 lo)
def scrL : List (D × D) → Option (List Int)
  | [] => some []
  | (.int n, .none) :: r => (scrL r).map (n :: ·)
  | _ => none
/-- the law's script: a dict here, marked by its first entry -/
def scrOf : List (D × D) → Option (List Int)
  | (.none, .none) :: r => scrL r
  | _ => none
def gCut (lo hi : Option Int) : Rs → Option RV := fun a => match a.data with
  | some (.list xs) => some (.new (.lst (cutD xs lo hi)))
  | some (.tuple xs) => some (.val (.tuple (cutD xs lo hi)))
  | some (.dict kvs) => (scrOf kvs).map fun ns => .new (.lst ((cutD ns lo hi).map .int))
  | _ => none
/-- a bound -/
def mBd : Option (M AV) → M (Option Int)
  | none => M.ret none
  | some m => m.bind fun a => fun r => match (look2 r a).bind Rs.data with
    | some (.int n) => some (.ok (some n), r)
    | _ => none
def mSl (m : M AV) (lo hi : Option (M AV)) : M RV := m.bind fun a => (mBd lo).bind fun l => (mBd hi).bind fun h => fun r => ((look2 r a).bind (gCut l h)).map fun v => (.ok v, r)
end DL
end

section
namespace DL
open PySem PySem.Spec PyProof.Rows L2
theorem listAt_look {r : Ro} {i : Nat} {ds : List D} (h : listAt r i = some ds) : look2 r (.slot i) = some (.ow (.lst ds)) := by
  unfold listAt at h
  split at h
  · rename_i es q; cases h; exact q
  · cases h
section
variable {K : PySem.W.Frag} {B H : Hp} {σ : L2.St} {r : Ro} {O : Addr → Prop}
theorem rows_set {a : Addr} {xs' : List V} {ds' : List D} : ∀ {as : List Addr} {rows : List (List D)} {k : Nat}, RowsAt K B H as rows → as[k]? = some a → as.Nodup → DqAll K B xs' ds' → RowsAt K B (upd H a (.lst xs')) as (rows.set k ds')
  | _, _, _, .nil, _, _, _ => .nil
  | x :: xs, y :: ys, 0, .cons hx t, g, nd, d => by
    simp at g
    subst g
    exact .cons ⟨xs', upd_same, d⟩ (rowsAt_same (Same.refl _) t fun z hz => upd_ne fun e => (List.nodup_cons.mp nd).1 (e ▸ hz))
  | x :: xs, y :: ys, k + 1, .cons hx t, g, nd, d => by
    have g' : xs[k]? = some a := by simpa using g
    have nx : x ≠ a := fun e => (List.nodup_cons.mp nd).1 (e ▸ List.mem_of_getElem? g')
    refine .cons ?_ (rows_set t g' (List.nodup_cons.mp nd).2 d)
    obtain ⟨ws, w1, w2⟩ := hx
    exact ⟨ws, by rw [upd_ne nx]; exact w1, w2⟩
theorem bor_same {i : Nat} {x y : Sl} (h : r[i]? = some x) (hp : pinned x = true → pinned y = true) : Bor r σ (r.set i y) σ := bor_set h hp
/-- the list that slot i tells of, and what a change of it does -/
theorem Con.mut (c : Con K B H σ r O) {i : Nat} {ds : List D} (h : listAt r i = some ds) : ∃ l xs, σ[i]? = some (some (V.ref l)) ∧ H l = some (.lst xs) ∧ DqAll K B xs ds ∧
    ∀ xs' ds', DqAll K B xs' ds' → Con K B (upd H l (.lst xs')) σ (updSl r i ds') O ∧ Step B H O B (upd H l (.lst xs')) O ∧ Bor r σ (updSl r i ds') σ := by
  have h := listAt_look h
  have live : ∀ (l : Addr) o, ∀ a, H a ≠ none → upd H l o a ≠ none := fun l o a ha => by
    by_cases e : a = l
    · subst e; rw [upd_same]; simp
    · rw [upd_ne e]; exact ha
  simp only [look2] at h
  split at h
  · cases h
  · rename_i b ct q
    cases h
    obtain ⟨l, F, h1, o, h3⟩ := c.own i b _ q
    obtain ⟨rfl, xs, h4, h5⟩ := id o
    refine ⟨l, xs, h1, h4, h5, fun xs' ds' d => ?_⟩
    obtain ⟨c1, s1⟩ := c.change (ct' := .lst ds') (F' := [l]) (H' := upd H l (.lst xs')) q h1 o (fun a ha => upd_ne (by simpa using ha)) ⟨rfl, xs', upd_same, d⟩ (fun a ha => ha) (live l _) (fun rows e => by cases e)
    have e : updSl r i ds' = r.set i (.own b (.lst ds')) := by unfold updSl; rw [q]
    rw [e]
    exact ⟨c1, s1, bor_same q fun z => z⟩
  · rename_i j k q
    split at h
    · rename_i b rows q2
      cases q3 : rows[k]? with
      | none => rw [q3] at h; cases h
      | some es =>
        rw [q3] at h
        cases h
        obtain ⟨L, F, h1, o, h3⟩ := c.own j b _ q2
        obtain ⟨as, rfl, h2, nd, ra⟩ := id o
        obtain ⟨a, g1, g2⟩ := c.al i j k q b rows L as q2 h1 h2
        obtain ⟨a', g3, vs, g4, g5⟩ := paired_at ra q3
        rw [g1] at g3; cases g3
        have hm : a ∈ as := List.mem_of_getElem? g1
        have nL : L ≠ a := fun e => (List.nodup_cons.mp nd).1 (e ▸ hm)
        refine ⟨a, vs, g2, g4, g5, fun xs' ds' d => ?_⟩
        have ra' := rows_set (xs' := xs') ra g1 (List.nodup_cons.mp nd).2 d
        obtain ⟨c1, s1⟩ := c.change (ct' := .ll (rows.set k ds')) (F' := L :: as) (H' := upd H a (.lst xs')) q2 h1 o (fun x hx => upd_ne fun e => hx (by rw [e]; simp [hm]))
          ⟨as, rfl, by rw [upd_ne nL]; exact h2, nd, ra'⟩ (fun a ha => ha) (live a _) (fun rows' e => .inr ⟨upd_ne nL, rows, rfl⟩)
        have e : updSl r i ds' = r.set j (.own b (.ll (rows.set k ds'))) := by unfold updSl; rw [q]; simp only [q2]
        rw [e]
        exact ⟨c1, s1, bor_same q2 fun z => z⟩
    · cases h
  · cases h
end
/-- a method that changes its list, by values -/
def MutD (X : Cx) (id : String) (g : List D → List D → Option (List D × D)) : Prop :=
  MtR X id fun x vs H Q => ∃ B l xs ds es ds' d, Same B H ∧ x = .ref l ∧ H l = some (.lst xs) ∧ DqAll X.K B xs ds ∧ DqAll X.K B vs es ∧ g ds es = some (ds', d) ∧ ∀ xs' v, DqAll X.K B xs' ds' → Dq X.K B v d → Q v (upd H l (.lst xs'))
section
variable {X : Cx} {W : WX}
theorem mut_run {g : List D → List D → Option (List D × D)} {i : Nat} {as : List AV} {B : Hp} {r : Ro} {O : Addr → Prop} {σ : L2.St} {H : Hp} {vs : List V} {Q : VK} {l0 : Addr} (hs : σ[i]? = some (some (V.ref l0)))
    (h : At (Cx.g X) W (fun r => match listAt r i, looks2 r as with
    | some ds, some xs => match dataAll xs with
      | some es => (g ds es).map fun p => (.ok (.val p.2), updSl r i p.1)
      | none => none
    | _, _ => none) (rV (Cx.g X)) B r O σ H Q) (x : Paired (AvR X.K B σ) as vs) :
    ∃ B l xs ds es ds' d, Same B H ∧ V.ref l0 = .ref l ∧ H l = some (.lst xs) ∧ DqAll X.K B xs ds ∧ DqAll X.K B vs es ∧ g ds es = some (ds', d) ∧ ∀ xs' v, DqAll X.K B xs' ds' → Dq X.K B v d → Q v (upd H l (.lst xs')) := by
  obtain ⟨c, o, r', e, p⟩ := h
  simp only at e
  split at e
  · rename_i ds xs q1 q2
    split at e
    · rename_i es q3
      cases q4 : g ds es with
      | none => rw [q4] at e; cases e
      | some z =>
        obtain ⟨ds', d⟩ := z
        rw [q4] at e
        cases e
        obtain ⟨l, ys, h1, h2, h3, h4⟩ := c.mut q1
        rw [hs] at h1; cases h1
        refine ⟨B, _, ys, ds, es, ds', d, c.sub, rfl, h2, h3, dataAll_of q3 (c.looks2_ q2 x), q4, fun xs' v dx dv => ?_⟩
        obtain ⟨c1, s1, b1⟩ := h4 xs' ds' dx
        exact p B _ O v s1 c1 b1 dv
    · cases e
  · cases e
/-- x.m(e, ..) -/
theorem de_mut {name : Str} {id : String} {x e : Expr} {es : List Expr} {apos cpos : Pos} {g : List D → List D → Option (List D × D)} {i : Nat} {ms : List (M AV)} (pa : PlainAttrs "list") (slot : Slot "list" name id) (hty : typeOf (.builtin id) = pure (.type "method_descriptor"))
    (hm : MutD X id g) (ho : PE X x (tVar i)) (ha : DA X W (e :: es) (oL ms))
    (hbase : attributeBase x name X.env (eval x X.env) = eval x X.env := by rfl)
    (hfew : ((backTo cpos (starEach (e :: es) X.env)).all (fun x => !x.1) && (backToKw cpos (keywordEach [] X.env)).all (fun x => x.1.isSome)
      && decide ((e :: es).length + ([] : List Keyword).length + (if ([] : List Keyword).isEmpty then 0 else 1) < 30)) = true := by rfl)
    (hline : (apos.endLine == cpos.line) = true := by rfl) (hs : starEach (e :: es) X.env = (false, eval e X.env) :: starEach es X.env := by rfl) (hplain : (backTo cpos (starEach es X.env)).any (·.1) = false := by rfl) :
    DE X W (.Call (.Attribute x name apos) (e :: es) [] cpos) (mMut g i ms) := pe_weak (pe_bm pa slot hty hm ho ha hbase hfew hline hs hplain) fun σ H Q ⟨B, r, O, c, o, r', e, p⟩ => by
  unfold mMut at e
  split at e
  · cases e
  · rename_i ds q
    obtain ⟨l, ys, h1, h2, h3, h4⟩ := c.mut q
    refine ⟨.ref l, h1, .inl ⟨rfl, ys, .of h2⟩, tG.of ((At.bind (R := rL (Cx.g X)) ⟨c, o, r', e, p⟩ later_rV).mono ?_)⟩
    rintro vs H1 ⟨as, B1, r1, O1, s1, x1, h5⟩
    exact mut_run h1 h5 x1
theorem md_append : MutD X "list.append" gAppend := by
  intro pins s σ H x vs v us Q I rx rs h
  obtain ⟨B, l, xs, ds, es, ds', d, sb, rfl, hH, hd, he, hg, q⟩ := h
  unfold gAppend at hg
  split at hg
  · rename_i d0
    split at hg
    · rename_i hl
      cases hg
      cases he with
      | cons h1 t =>
        cases t
        exact mt_append pins s σ H _ _ v us Q I rx rs ⟨l, xs, _, rfl, rfl, hH, by rw [hd.length, ← line_eq]; exact hl, q _ _ (hd.append (.cons h1 .nil)) .non⟩
    · cases hg
  · cases hg
theorem DqAll.dropLast {K : PySem.W.Frag} {H : Hp} {vs : List V} {ds : List D} (h : DqAll K H vs ds) : DqAll K H vs.dropLast ds.dropLast := by
  rw [List.dropLast_eq_take, List.dropLast_eq_take, h.length]
  exact h.take _
end
end DL
end

section
namespace DL
open PySem PySem.Spec PyProof.Rows L2
section
variable {X : Cx} {W : WX}
theorem AtS.exF {k : D → S} {m : M RV} {B : Hp} {r : Ro} {O : Addr → Prop} {σ : L2.St} {H : Hp} {D' : Ends} (h : AtS (Cx.g X) W (sEx (mFz m) k) B r O σ H D') :
    At (Cx.g X) W m (rV (Cx.g X)) B r O σ H fun y H1 => ∃ a B1 r1 O1, Step B H O B1 H1 O1 ∧ Bor r σ r1 σ ∧ Dq X.K B1 y a ∧ Con X.K B1 H1 σ r1 O1 ∧ ∃ o r', k a r1 = some (o, r') ∧ PostS (Cx.g X) W B r O σ H D' r' o :=
  At.froz (h.ex (R := rD (Cx.g X)))
/-- x[i] = e -/
theorem ds_sub {x e ie : Expr} {tpos pos : Pos} {i : Nat} {me : M RV} {mi : M AV} (ho : PE X x (tVar i)) (he : DE X W e me) (hi : DO X W ie mi)
    (ha : ∀ v, assign (.Subscript x ie tpos) X.env v = (do
      let ov ← holding [v] (eval x X.env)
      let iv ← holding [v, ov] (eval ie X.env)
      standAt tpos
      holding [v, ov, iv] (setItem ov iv v)
      release [v, ov, iv] []) := by intro _; rfl) (hs : swapsWithSole [.Subscript x ie tpos] e pos.line X.env = pure false := by rfl) (hw : swappedStores [.Subscript x ie tpos] e X.env = pure none := by rfl)
    (h1 : (assignEach [.Subscript x ie tpos] X.env).map (·.2) = [assign (.Subscript x ie tpos) X.env] := by rfl) : DS X W (.Assign [.Subscript x ie tpos] e pos) (sSub i me mi) :=
  ps_weak (ps_asg he (pg_sub ho hi set_list ha) hs hw h1) fun D σ H ⟨B, r, O, h⟩ => by
    refine tG.of (h.exF.mono ?_)
    rintro y H1 ⟨d, B1, r1, O1, s1, b1, x1, c1, o, r', e1, p⟩
    split at e1
    · cases e1
    · rename_i ds0 q0
      obtain ⟨l, xs0, g1, g2, g3, _⟩ := c1.mut q0
      refine ⟨.ref l, g1, ?_⟩
      -- the index
      have h2 : AtS (Cx.g X) W (sEx mi (fun a => fun r => match listAt r i, (look2 r a).bind Rs.data with
        | some ds, some (.int n) => (ixD ds.length n).map fun k => (.nx, updSl r i (ds.set k d))
        | _, _ => none)) B1 r1 O1 σ H1 D := AtS.after s1 c1 b1 e1 p
      refine tG.of ((h2.ex (R := rA (Cx.g X))).mono ?_)
      rintro z H2 ⟨a, B2, r2, O2, s2, b2, x2, c2, o2, r3, e2, p2⟩
      split at e2
      · rename_i ds n q1 q2
        cases q3 : ixD ds.length n with
        | none => rw [q3] at e2; cases e2
        | some k =>
          rw [q3] at e2
          cases e2
          obtain ⟨l', xs, k1, k2, k3, k4⟩ := c2.mut q1
          rw [g1] at k1; cases k1
          obtain ⟨rs, q4, q5⟩ := Option.bind_eq_some_iff.mp q2
          have rz : z = .int n := rs_int (c2.look2_ q4 x2) q5
          obtain ⟨c3, s3, b3⟩ := k4 (xs.set k y) (ds.set k d) (k3.set (dp_same s2.sB x1) k)
          exact ⟨l, xs, n, k, rfl, rz, k2, by rw [k3.length]; exact q3, p2 B2 _ O2 σ (s2.trans s3) c3 (b2.trans b3)⟩
      · cases e2
/-- a, b = e, f -/
theorem ds_par {i j : Nat} {x y : Str} {a b : Expr} {px py pt pos : Pos} {kt k2 pt2} {m n : M RV} (hc : X.calm = true) (hN : X.N.Nodup) (hi : X.N[i]? = some x) (hj : X.N[j]? = some y) (hij : i ≠ j)
    (hx : X.env.scope.names.lookup x = some .local) (hy : X.env.scope.names.lookup y = some .local) (ha : DE X W a m) (hb : DE X W b n)
    (hw : swappedStores [.Tuple [.Name x px, .Name y py] kt pt] (.Tuple [a, b] k2 pt2) X.env = pure (some [x, y]))
    (hs : swapsWithSole [.Tuple [.Name x px, .Name y py] kt pt] (.Tuple [a, b] k2 pt2) pos.line X.env = pure false := by rfl)
    (h1 : starEach [a, b] X.env = (false, eval a X.env) :: starEach [b] X.env := by rfl) (h2 : starEach [b] X.env = (false, eval b X.env) :: starEach [] X.env := by rfl) :
    DS X W (.Assign [.Tuple [.Name x px, .Name y py] kt pt] (.Tuple [a, b] k2 pt2) pos) (sPar i j m n) :=
  ps_weak (L2.ps_par hc hN hi hj hij hx hy (pa_cons ha (pa_cons hb pa_nil h2) h1) hw hs) fun D σ H ⟨B, r, O, h⟩ => by
    refine tG.of (h.exF.mono ?_)
    rintro v H1 ⟨d, B1, r1, O1, s1, b1, x1, c1, o, r', e1, p⟩
    have hh : AtS (Cx.g X) W (sEx (mFz n) fun e => sSeq (putSl i (.val d)) (putSl j (.val e))) B1 r1 O1 σ H1 D := AtS.after s1 c1 b1 e1 p
    refine tG.of (hh.exF.mono ?_)
    rintro w H2 ⟨e, B2, r2, O2, s2, b2, x2, c2, o2, r3, e2, p2⟩
    refine ⟨v, w, rfl, ?_⟩
    unfold sSeq at e2
    cases q : putSl i (.val d) r2 with
    | none => rw [q] at e2; cases e2
    | some z =>
      obtain ⟨o3, r4⟩ := z
      obtain ⟨rfl, O3, c3, b3, h3⟩ := put_ok (H0 := H1) c2 q (show RvR X.K H1 B2 H2 O2 (.val d) v from dp_same s2.sB x1) s2.live
      rw [q] at e2
      obtain ⟨rfl, O4, c4, b4, h4⟩ := put_ok (H0 := H1) c3 e2 (show RvR X.K H1 B2 H2 O3 (.val e) w from x2) s2.live
      exact p2 B2 H2 O4 _ (put_step (put_step s2 h3) h4) c4 (b2.trans (b3.trans b4))
theorem putSl_nx {i : Nat} {v : RV} {r r' : Ro} {o : SO} (e : putSl i v r = some (o, r')) : o = .nx := by
  unfold putSl at e
  split at e
  · cases e
  · split at e
    · cases e
    · cases v with
      | val d => cases e; rfl
      | new c =>
        cases c with
        | ll rows =>
          simp only at e
          split at e <;> cases e
          rfl
        | _ => cases e; rfl
theorem sets_nx : ∀ {fs : List (D → S)}, (∀ f ∈ fs, ∀ d r o r', f d r = some (o, r') → o = .nx) → ∀ {ds : List D} {r r' : Ro} {o : SO}, sets fs ds r = some (o, r') → o = .nx
  | [], _, [], _, _, _, e => by cases e; rfl
  | [], _, _ :: _, _, _, _, e => by cases e
  | _ :: _, _, [], _, _, _, e => by cases e
  | f :: fs, hf, d :: ds, r, r', o, e => by
    have e' : sSeq (f d) (sets fs ds) r = some (o, r') := e
    unfold sSeq at e'
    cases q : f d r with
    | none => rw [q] at e'; cases e'
    | some z =>
      obtain ⟨o1, r1⟩ := z
      have := hf f (by simp) d r o1 r1 q
      subst this
      rw [q] at e'
      exact sets_nx (fun g hg => hf g (by simp [hg])) e'
theorem setN_nx (i : Nat) : ∀ d r o r', setN i d r = some (o, r') → o = .nx := fun d r o r' e => putSl_nx e
theorem setT_nx {fs : List (D → S)} (hf : ∀ f ∈ fs, ∀ d r o r', f d r = some (o, r') → o = .nx) : ∀ d r o r', setT fs d r = some (o, r') → o = .nx := fun d r o r' e => by
  cases d with
  | tuple ds => exact sets_nx hf e
  | _ => cases e
theorem sWhile_n {t : M Bool} {body : S} {r : Ro} {z : SO × Ro} (h : sWhile t body r = some z) : ∃ n, whN t body n r = some z := by
  unfold sWhile at h
  split at h
  · exact ⟨_, h⟩
  · cases h
theorem ds_while {c : Expr} {body : List Stmt} {pos : Pos} {t : M Bool} {mb : S} (hp : PassesOwn (model X.prog X.w) X.A X.env X.xe) (hc : DB X W c t) (hb : DSs X W body mb) : DS X W (.While c body [] pos) (sWhile t mb) :=
  ps_weak (ps_while hp hc hb) fun D σ H ⟨B, r, O, c0, o, r', e, p⟩ => by
    obtain ⟨n, e⟩ := sWhile_n e
    refine ⟨fun m σ' H' => ∃ B' r2 O', Step B H O B' H' O' ∧ Con X.K B' H' σ' r2 O' ∧ Bor r σ r2 σ' ∧ whN t mb m r2 = some (o, r'), ⟨n, B, r, O, .refl, c0, .refl, e⟩, ?_⟩
    rintro m σ2 H2 ⟨B2, r2, O2, s2, c2, b2, e2⟩
    cases m with
    | zero => cases e2
    | succ m =>
      unfold whN at e2
      refine tG.of (m := t) ⟨c2, ?_⟩
      cases q : t r2 with
      | none => rw [q] at e2; cases e2
      | some w =>
        obtain ⟨o1, r3⟩ := w
        rw [q] at e2
        refine ⟨o1, r3, rfl, ?_⟩
        cases o1 with
        | exc x =>
          cases e2
          exact fun B' H' O' k dx s' c' b' y => p B' H' O' σ2 k dx (s2.trans s') c' (b2.trans b') y
        | ok b =>
          intro B3 H3 O3 b' s3 c3 b3 hb'
          cases hb'
          cases b with
          | false =>
            cases e2
            exact iteF (p B3 H3 O3 σ2 (s2.trans s3) c3 (b2.trans b3))
          | true =>
            refine iteT ⟨fun σ' H' => ∃ B' r2 O', Step B H O B' H' O' ∧ Con X.K B' H' σ' r2 O' ∧ Bor r σ r2 σ' ∧ whN t mb m r2 = some (o, r'), fun σ' H' z => ⟨m, Nat.lt_succ_self m, z⟩, B3, r3, O3, c3, ?_⟩
            have s03 := s2.trans s3
            have b03 := b2.trans b3
            simp only at e2
            cases q2 : mb r3 with
            | none => rw [q2] at e2; cases e2
            | some z2 =>
              obtain ⟨o5, r5⟩ := z2
              rw [q2] at e2
              refine ⟨o5, r5, rfl, ?_⟩
              cases o5 with
              | nx => exact fun B' H' O' σ' s' c' b' => ⟨B', r5, O', s03.trans s', c', b03.trans b', e2⟩
              | cnt => exact fun B' H' O' σ' s' c' b' => ⟨B', r5, O', s03.trans s', c', b03.trans b', e2⟩
              | brk =>
                cases e2
                exact fun B' H' O' σ' s' c' b' => p B' H' O' σ' (s03.trans s') c' (b03.trans b')
              | ret v =>
                cases e2
                exact fun B' H' O' σ' x s' c' b' y => p B' H' O' σ' x (s03.trans s') c' (b03.trans b') (later_rV (G := Cx.g X) _ H3 B' H' O' σ' v x (s03.live) y)
              | rets j =>
                cases e2
                exact fun B' H' O' σ' x s' c' b' y => p B' H' O' σ' x (s03.trans s') c' (b03.trans b') y
              | exc ex =>
                cases e2
                exact fun B' H' O' σ' k dx s' c' b' y => p B' H' O' σ' k dx (s03.trans s') c' (b03.trans b') y
end
end DL
end

section
namespace DL
open PySem PySem.Spec PyProof.Rows L2
section
variable {X : Cx} {W : WX}
end
end DL
end

section
namespace DL
open PySem
def gLen : List Rs → Option RV
  | [.ow (.ll rows)] => some (.val (.int rows.length))
  | [.ow (.dK kvs)] => some (.val (.int kvs.length))
  | [a] => match a.data with
    | some (.list xs) => some (.val (.int xs.length))
    | some (.tuple xs) => some (.val (.int xs.length))
    | some (.str x) => if x.length ≤ lineD then some (.val (.int x.length)) else none
    | _ => none
  | _ => none
def isTupD : D → Bool
  | .tuple _ => true
  | _ => false
inductive Ty where
  | int | bool | str | list | tuple | dict
  deriving DecidableEq
/-- one pair of whole numbers -/
def oneI : List (D × D) → Bool
  | [(.int _, .int _)] => true
  | _ => false
/-- isinstance(x, T) -/
def isTy : Ty → D → Option Bool
  | .int, .int _ => some true
  | .int, .bool _ => some true
  | .bool, .bool _ => some true
  | .str, .str _ => some true
  | .list, .list _ => some true
  | .tuple, .tuple _ => some true
  | .dict, .dict (p :: r) => if oneI (p :: r) then some true else none
  | _, .dict (p :: r) => if oneI (p :: r) then some false else none
  | .dict, .dict [] => some true
  | _, _ => some false
def anyTy : List Ty → D → Option Bool
  | [], _ => some false
  | t :: ts, d => match isTy t d with
    | some true => some true
    | some false => anyTy ts d
    | none => none
def mIsi (ts : List Ty) (m : M AV) : M RV := m.bind fun a => fun r => ((look2 r a).bind Rs.data).bind fun d => (anyTy ts d).map fun b => (.ok (.val (.bool b)), r)
end DL
end

section
namespace DL
open PySem PySem.Spec PyProof.Rows L2
section
variable {X : Cx} {W : WX}
theorem At.opsL {lo : Bool} {ms : List (M AV)} {g : List Rs → Option (List D)} {B : Hp} {r : Ro} {O : Addr → Prop} {σ : L2.St} {H : Hp} {Q : It → Hp → Prop} (h : At (Cx.g X) W (mOpL g ms) (rI (Cx.g X) lo) B r O σ H Q) :
    At (Cx.g X) W (oL ms) (rL (Cx.g X)) B r O σ H fun vs H1 => ∃ B1 xs ds, Same B1 H1 ∧ Paired (RsR X.K B1 H1) xs vs ∧ g xs = some ds ∧ ∀ J, Serves X.K lo J B1 ds → Q J H1 := by
  refine (h.bind later_rI (R := rL (Cx.g X))).mono ?_
  rintro vs H1 ⟨as, B1, r1, O1, s1, x1, c, o, r', e, p⟩
  simp only at e
  split at e
  · cases e
  · rename_i xs q
    cases q2 : g xs with
    | none => rw [q2] at e; cases e
    | some ds =>
      rw [q2] at e
      cases e
      exact ⟨B1, xs, ds, c.sub, c.looks2_ q x1, q2, fun J sv => p B1 H1 O1 J .refl c .refl sv⟩
theorem okR_of {i : Int} (h : okR i = true) : -(2 ^ 62) ≤ i ∧ i < 2 ^ 62 := by
  unfold okR at h
  simpa using h
theorem di_rng1 {lb : Bool} {tg a : Expr} {p pos : Pos} {ma : M AV} (hg : Gl X "range") (hm : X.mg "range" = none) (ha : DO X W a ma) (hs : starEach [a] X.env = [(false, eval a X.env)] := by rfl) (hs2 : starEach [a] X.env = (false, eval a X.env) :: starEach [] X.env := by rfl) : DI X W lb tg (.Call (.Name "range" p) [a] [] pos) (mOpL gRng1 [ma]) :=
  pi_weak (pi_range1 hg hm (da_cons ha da_nil hs2) hs) fun σ H Q ⟨B, r, O, h⟩ => by
    refine tG.of (h.opsL.mono ?_)
    rintro vs H1 ⟨B1, xs, ds, sb, p, hg, q⟩
    unfold gRng1 at hg
    split at hg
    · rename_i j
      split at hg
      · rename_i hj
        cases hg
        cases p with
        | cons p1 p =>
          cases p
          cases dp_int p1
          obtain ⟨h1, h2⟩ := okR_of hj
          refine ⟨j, rfl, h1, h2, q _ ?_⟩
          have := serves_range (lb := lb) (K := X.K) (B0 := B1) (lo := 0) (hi := j)
          rwa [Int.sub_zero] at this
      · cases hg
    · cases hg
theorem di_rng2 {lb : Bool} {tg a b : Expr} {p pos : Pos} {ma mb : M AV} (hg : Gl X "range") (hm : X.mg "range" = none) (ha : DO X W a ma) (hb : DO X W b mb) (hs : starEach [a, b] X.env = [(false, eval a X.env), (false, eval b X.env)] := by rfl) (hs2 : starEach [b] X.env = [(false, eval b X.env)] := by rfl)
    (hs3 : starEach [a, b] X.env = (false, eval a X.env) :: starEach [b] X.env := by rfl) (hs4 : starEach [b] X.env = (false, eval b X.env) :: starEach [] X.env := by rfl) : DI X W lb tg (.Call (.Name "range" p) [a, b] [] pos) (mOpL gRng2 [ma, mb]) :=
  pi_weak (pi_range2 hg hm (da_cons ha (da_cons hb da_nil hs4) hs3) hs hs2) fun σ H Q ⟨B, r, O, h⟩ => by
    refine tG.of (h.opsL.mono ?_)
    rintro vs H1 ⟨B1, xs, ds, sb, p, hg, q⟩
    unfold gRng2 at hg
    split at hg
    · rename_i i j
      split at hg
      · rename_i hj
        cases hg
        obtain ⟨hi, hj⟩ := Bool.and_eq_true_iff.mp hj
        cases p with
        | cons p1 p =>
          cases p with
          | cons p2 p =>
            cases p
            cases dp_int p1
            cases dp_int p2
            obtain ⟨h1, h2⟩ := okR_of hi
            obtain ⟨h3, h4⟩ := okR_of hj
            exact ⟨i, j, rfl, ⟨h1, h2, h3, h4⟩, q _ serves_range⟩
      · cases hg
    · cases hg
def rO : Rl (Option Int) (Option Int) := fun _ _ _ _ _ a b => a = b
theorem later_rO : Later rO := fun _ _ _ _ _ _ _ _ _ h => h
def DP (X : Cx) (W : WX) (e : Option Expr) (m : M (Option Int)) : Prop := PO X e (tG (Cx.g X) W m rO)
theorem dp_none : DP X W none (mBd none) := ⟨fun pins s σ H Q I ⟨B, r, O, h⟩ => po_none.run pins s σ H Q I (h.ret rfl)⟩
theorem dp_some {e : Expr} {m : M AV} (h : DO X W e m) : DP X W (some e) (mBd (some m)) := ⟨fun pins s σ H Q I ⟨B, r, O, g⟩ => (po_some h).run pins s σ H Q I (by
  refine tG.of ((At.bind g later_rO (R := rA (Cx.g X))).mono ?_)
  rintro v H1 ⟨a, B1, r1, O1, s1, x1, c, o, r', e, p⟩
  simp only at e
  split at e
  · rename_i n q
    cases e
    obtain ⟨rs, q1, q2⟩ := Option.bind_eq_some_iff.mp q
    exact ⟨n, rs_int (c.look2_ q1 x1) q2, p B1 H1 O1 _ .refl c .refl rfl⟩
  · cases e)⟩
theorem sIxD_eq (n d : Nat) (o : Option Int) : sIxD n d o = HT.sIx n d o := by cases o <;> rfl
theorem cutD_cut {xs : List V} {lo hi : Option Int} : cutD xs lo hi = cutV xs lo hi := by
  unfold cutD cutV
  rw [sIxD_eq, sIxD_eq]
theorem DqAll.cut {K : PySem.W.Frag} {H : Hp} {vs : List V} {ds : List D} (h : DqAll K H vs ds) (lo hi : Option Int) : DqAll K H (cutV vs lo hi) (cutD ds lo hi) := by
  rw [← cutD_cut]
  unfold cutD
  rw [h.length]
  exact (h.drop _).take _
theorem scrL_eq : ∀ (ns : List Int), scrL (ns.map fun n => (PyData.int n, PyData.none)) = some ns
  | [] => rfl
  | n :: ns => by
    show (scrL (ns.map fun n => (PyData.int n, PyData.none))).map (n :: ·) = _
    rw [scrL_eq ns]
    rfl
theorem scrOf_eq (ns : List Int) : scrOf ((PyData.none, PyData.none) :: ns.map fun n => (PyData.int n, PyData.none)) = some ns := scrL_eq ns
theorem dq_ints {K : PySem.W.Frag} {H : Hp} : ∀ ns : List Int, DqAll K H (ns.map V.int) (ns.map PyData.int)
  | [] => .nil
  | n :: ns => .cons (.int n) (dq_ints ns)
theorem cut_map {α β : Type} (f : α → β) (xs : List α) (lo hi : Option Int) : cutD (xs.map f) lo hi = (cutD xs lo hi).map f := by
  unfold cutD
  rw [List.length_map, List.map_take, List.map_drop]
/-- a[lo:hi] of lists, tuples, the script -/
theorem sl_any {a : Rs} {B H : Hp} {lo hi : Option Int} {v : V} {z : RV} {Q : VK} (sb : Same B H) (h : RsR X.K B H a v) (e : gCut lo hi a = some z) (q : ∀ H' v, Alc X.K B H H' z v → Q v H') : rSlL X.K v lo hi H Q ∨ rSlF X.K v lo hi H Q := by
  unfold gCut at e
  split at e
  · rename_i xs q1
    cases e
    obtain ⟨l, vs, rfl, h1, d1⟩ := rs_list sb h q1
    exact .inl ⟨l, vs, rfl, .of h1, alc_lst q (d1.cut lo hi)⟩
  · rename_i xs q1
    cases e
    obtain ⟨l, vs, rfl, h1, d1⟩ := rs_tuple sb h q1
    refine .inr ⟨l, vs, rfl, h1.sq, fun hw => ?_, fun _ => alc_tup q (d1.cut lo hi)⟩
    have : cutD xs lo hi = xs := by
      unfold cutD
      rw [sIxD_eq, sIxD_eq, ← d1.length, hw.1, hw.2, List.drop_zero, d1.length, Nat.sub_zero]
      exact List.take_length
    rw [this] at q
    cases a with
    | fz d => cases q1; exact alc_val q h
    | ow c => cases c <;> cases q1
  · rename_i kvs q1
    cases q2 : scrOf kvs with
    | none => rw [q2] at e; cases e
    | some ns =>
      rw [q2] at e
      cases e
      cases a with
      | ow c => cases c <;> cases q1
      | fz d =>
        cases q1
        cases h with
        | dic s => cases q2
        | dii s => cases q2
        | fn s hd => unfold fnD at hd; cases hd; cases q2
        | @scr l ms d hs hd =>
          have hk : kvs = (PyData.none, PyData.none) :: ms.map fun n => (PyData.int n, PyData.none) := by
            unfold scrD at hd
            cases hd; rfl
          subst hk
          rw [scrOf_eq] at q2
          cases q2
          refine .inl ⟨l, _, rfl, sb.seq hs, alc_lst q ?_⟩
          rw [← cutD_cut, cut_map]
          exact dq_ints _
  · cases e
theorem de_slice {a : Expr} {lo hi : Option Expr} {p2 pos : Pos} {ma : M AV} {ml mh : Option (M AV)} (ha : DO X W a ma) (hl : DP X W lo (mBd ml)) (hh : DP X W hi (mBd mh)) : DE X W (.Subscript a (.Slice lo hi none p2) pos) (mSl ma ml mh) :=
  pe_weak (pe_slice (SlR.or sl_list fsl_tup) ha hl hh) fun σ H Q ⟨B, r, O, h⟩ => by
    refine tG.of ((h.bind later_rV (R := rA (Cx.g X))).mono ?_)
    rintro v H1 ⟨a, B1, r1, O1, s1, x1, h1⟩
    refine tG.of ((h1.bind later_rV (R := rO)).mono ?_)
    rintro l H2 ⟨l', B2, r2, O2, s2, rfl, h2⟩
    refine tG.of ((h2.bind later_rV (R := rO)).mono ?_)
    rintro u H3 ⟨u', B3, r3, O3, s3, rfl, c, o, r', e, p⟩
    simp only at e
    cases q : (look2 r3 a).bind (gCut l' u') with
    | none => rw [q] at e; cases e
    | some z =>
      rw [q] at e
      cases e
      obtain ⟨rs, q1, q2⟩ := Option.bind_eq_some_iff.mp q
      have x3 := (AvR.same (s2.sB.trans s3.sB) x1)
      refine sl_any c.sub (c.look2_ q1 x3) q2 fun H' v al => ?_
      obtain ⟨B', s, c', rv⟩ := c.alc al
      exact p B' H' O3 v s c' .refl rv
theorem ints_dq {K : PySem.W.Frag} {H : Hp} : ∀ {ds : List D} {ns : List Int} {vs : List V}, intsD ds = some ns → DqAll K H vs ds → vs = ns.map V.int
  | [], _, _, h, d => by cases h; cases d; rfl
  | .int i :: ds, ns, _, h, d => by
    cases d with
    | cons h1 t =>
      simp only [intsD] at h
      cases q : intsD ds with
      | none => rw [q] at h; cases h
      | some ms =>
        rw [q] at h
        cases h
        rw [dp_int h1, ints_dq q t]
        rfl
  | .none :: _, _, _, h, _ => by cases h
  | .bool _ :: _, _, _, h, _ => by cases h
  | .str _ :: _, _, _, h, _ => by cases h
  | .list _ :: _, _, _, h, _ => by cases h
  | .tuple _ :: _, _, _, h, _ => by cases h
  | .dict _ :: _, _, _, h, _ => by cases h
theorem flat_ints (ns : List Int) : (ns.map V.int).all flatV = true := by
  rw [List.all_map]
  exact List.all_eq_true.mpr fun _ _ => rfl
theorem find_facts {ns : List Int} {y : Int} {k : Nat} (h : ns.findIdx? (· == y) = some k) : ns[k]? = some y ∧ ∀ (m : Nat) z, m < k → ns[m]? = some z → (z == y) = false := by
  rw [List.findIdx?_eq_some_iff_getElem] at h
  obtain ⟨hk, h1, h2⟩ := h
  refine ⟨by rw [List.getElem?_eq_getElem hk]; simpa using h1, fun m z hm hz => ?_⟩
  have := h2 m hm
  obtain ⟨hm', e⟩ := List.getElem?_eq_some_iff.mp hz
  rw [e] at this
  simpa using this
end
end DL
end

section
namespace DL
open PySem PySem.Spec PyProof.Rows L2
section
variable {X : Cx} {W : WX}
theorem oL_one (m : M AV) {β : Type} (f : AV → M β) (g : M β) : ((oL [m]).bind fun bs => match bs with | [b] => f b | _ => g) = m.bind f := by
  unfold oL oL
  simp only [bind_assoc, ret_bind]
theorem cd_len : CallD X (.builtin "len") gLen := by
  intro pins s σ H vs us Q I r ⟨B, as, z, sb, p, hg, q⟩
  unfold gLen at hg
  split at hg
  · rename_i rows
    cases hg
    cases p with
    | cons p1 p =>
      cases p
      obtain ⟨l, F, rfl, as, rfl, g1, _, g2⟩ := p1
      exact call_len_seq pins s σ H _ us Q I r ⟨l, _, rfl, .inl (.of g1), by rw [List.length_map, g2.length]; exact alc_val q (.int _)⟩
  · rename_i kvs
    cases hg
    cases p with
    | cons p1 p =>
      cases p
      obtain ⟨l, F, rfl, rfl, vs, g1, g2⟩ := p1
      exact call_lenD pins s σ H _ us Q I r ⟨l, vs, rfl, g1, by rw [show vs.length = kvs.length from g2.length]; exact alc_val q (.int _)⟩
  · rename_i a
    cases p with
    | cons p1 p =>
      cases p
      split at hg
      · rename_i xs e
        cases hg
        obtain ⟨l, ms, rfl, g1, g2⟩ := rs_list sb p1 e
        exact call_len_seq pins s σ H _ us Q I r ⟨l, ms, rfl, .inl (.of g1), by rw [g2.length]; exact alc_val q (.int _)⟩
      · rename_i xs e
        cases hg
        obtain ⟨l, ms, rfl, g1, g2⟩ := rs_tuple sb p1 e
        exact call_len_seq pins s σ H _ us Q I r ⟨l, ms, rfl, .inr g1.sq, by rw [g2.length]; exact alc_val q (.int _)⟩
      · rename_i x e
        split at hg
        · rename_i hl
          cases hg
          cases rs_str p1 e
          exact call_len_str pins s σ H _ us Q I r ⟨x, rfl, by rw [← line_eq]; exact hl, alc_val q (.int _)⟩
        · cases hg
      · cases hg
  · cases hg
def tyN : Ty → String
  | .int => "int"
  | .bool => "bool"
  | .str => "str"
  | .list => "list"
  | .tuple => "tuple"
  | .dict => "dict"
theorem isTy_pl {t : Ty} {d : D} {b : Bool} (h : isTy t d = some b) : (isTy .int d).isSome = true := by
  cases d with
  | dict kvs =>
    cases kvs with
    | nil => rfl
    | cons p r =>
      by_cases q : oneI (p :: r) = true
      · simp [isTy, q]
      · cases t <;> simp [isTy, q] at h
  | _ => rfl
theorem isTy_dict {kvs : List (D × D)} (h : (isTy .int (.dict kvs)).isSome = true) : kvs = [] ∨ ∃ i j, kvs = [(.int i, .int j)] := by
  cases kvs with
  | nil => exact .inl rfl
  | cons p r =>
    by_cases q : oneI (p :: r) = true
    · unfold oneI at q
      split at q
      · rename_i i j e
        exact .inr ⟨i, j, e⟩
      · cases q
    · simp [isTy, q] at h
theorem isTy_kit {K : PySem.W.Frag} {B H : Hp} {d : D} {a : Rs} {v : V} (sb : Same B H) (h : RsR K B H a v) (e : a.data = some d) (hd : (isTy .int d).isSome = true) : ∃ T : String, TyX K H v (.type T) ∧ ∀ (t : Ty) b, isTy t d = some b → PySem.W.kitOne K (.type T) (.type (tyN t)) = some b := by
  cases d with
  | none =>
    have : v = .non := by
      cases a with
      | fz d => cases e; exact dp_non h
      | ow c => cases c <;> cases e
    subst this
    refine ⟨"NoneType", .base .non, fun t b ht => ?_⟩
    cases t <;> cases ht <;> exact kit_ty (by decide +kernel)
  | bool x =>
    have : v = .bl x := by
      cases a with
      | fz d => cases e; exact dp_bl h
      | ow c => cases c <;> cases e
    subst this
    refine ⟨"bool", .base (.bl x), fun t b ht => ?_⟩
    cases t <;> cases ht <;> exact kit_ty (by decide +kernel)
  | int x =>
    cases rs_int h e
    refine ⟨"int", .base (.int x), fun t b ht => ?_⟩
    cases t <;> cases ht <;> exact kit_ty (by decide +kernel)
  | str x =>
    cases rs_str h e
    refine ⟨"str", .base (.str x), fun t b ht => ?_⟩
    cases t <;> cases ht <;> exact kit_ty (by decide +kernel)
  | list x =>
    obtain ⟨l, ms, rfl, g1, g2⟩ := rs_list sb h e
    refine ⟨"list", .base (.lst g1), fun t b ht => ?_⟩
    cases t <;> cases ht <;> exact kit_ty (by decide +kernel)
  | tuple x =>
    obtain ⟨l, ms, rfl, ⟨o, _, g1⟩, g2⟩ := rs_tuple sb h e
    refine ⟨"tuple", .fTuple g1, fun t b ht => ?_⟩
    cases t <;> cases ht <;> exact kit_ty (by decide +kernel)
  | dict x =>
    rcases isTy_dict hd with rfl | ⟨i, j, rfl⟩
    · have : ∃ l, v = .ref l ∧ H l = some (.dK []) := by
        cases a with
        | fz d =>
          cases e
          have h : Dq K B v (.dict []) := h
          generalize hd : (PyData.dict [] : D) = d at h
          cases h with
          | scr s h => rw [h] at hd; cases hd
          | fn s h => rw [h] at hd; cases hd
          | dic s => exact ⟨_, rfl, sb _ _ s⟩
          | _ => cases hd
        | ow c => cases c <;> cases e
      obtain ⟨l, rfl, g1⟩ := this
      refine ⟨"dict", .base (.dK g1), fun t b ht => ?_⟩
      cases t <;> cases ht <;> exact kit_ty (by decide +kernel)
    · have : ∃ l, v = .ref l ∧ H l = some (.dK [(.inl i, .int j)]) := by
        cases a with
        | fz d =>
          cases e
          have h : Dq K B v (.dict [(.int i, .int j)]) := h
          generalize hd : (PyData.dict [(.int i, .int j)] : D) = d at h
          cases h with
          | scr s h => rw [h] at hd; unfold scrD at hd; cases hd
          | fn s h => rw [h] at hd; unfold fnD at hd; cases hd
          | dii s => cases hd; exact ⟨_, rfl, sb _ _ s⟩
          | _ => cases hd
        | ow c => cases c <;> cases e
      obtain ⟨l, rfl, g1⟩ := this
      refine ⟨"dict", .base (.dK g1), fun t b ht => ?_⟩
      cases t <;> cases ht <;> exact kit_ty (by decide +kernel)
/-- isinstance(e, T) -/
theorem de_isi {t : Ty} {e : Expr} {T : Str} {p p2 pos : Pos} {m : M AV} (hg : Gl X "isinstance") (hm : X.mg "isinstance" = none) (hT : Gl X T) (mT : X.mg T = none) (he : DO X W e m) (hvT : bootBuiltins T = some (.type (tyN t))) (nT : T ≠ "__name__" := by decide) (dT : (T == ("__debug__" : Str)) = false := by decide)
    (h1 : starEach [e, .Name T p2] X.env = (false, eval e X.env) :: starEach [.Name T p2] X.env := by rfl) (h2 : starEach [.Name T p2] X.env = (false, eval (.Name T p2) X.env) :: starEach [] X.env := by rfl)
    (hpl : (backTo pos (starEach [.Name T p2] X.env)).any (·.1) = false := by rfl) (hv : bootBuiltins "isinstance" = some (.builtin "isinstance") := by decide +kernel) :
    DE X W (.Call (.Name "isinstance" p) [e, .Name T p2] [] pos) (mIsi [t] m) :=
  pe_weak (pe_callB call_isi hg hm hv (pa_cons he (pa_cons (pe_bltn hT mT hvT (v := .ty (tyN t)) rfl nT dT) pa_nil h2) h1) (by decide) (by decide) h1 hpl) fun σ H Q ⟨B, r, O, h⟩ => by
    refine tG.of ((h.bind later_rV (R := rA (Cx.g X))).mono ?_)
    rintro x H1 ⟨a, B1, r1, O1, s1, x1, c, o, r', e, p⟩
    simp only at e
    cases q : (look2 r1 a).bind Rs.data with
    | none => rw [q] at e; cases e
    | some d =>
      rw [q] at e
      simp only [Option.bind_some, anyTy] at e
      obtain ⟨rs, q3, q4⟩ := Option.bind_eq_some_iff.mp q
      cases q5 : isTy t d with
      | none => rw [q5] at e; cases e
      | some b =>
        rw [q5] at e
        obtain ⟨TT, k1, k2⟩ := isTy_kit c.sub (c.look2_ q3 x1) q4 (isTy_pl q5)
        have k2 := k2 t b q5
        refine ⟨x, .ty (tyN t), _, _, b, rfl, .ty _, k1, k2, ?_⟩
        cases b with
        | true => cases e; exact p B1 H1 O1 _ .refl c .refl (.bl _)
        | false => cases e; exact p B1 H1 O1 _ .refl c .refl (.bl _)
end
end DL
end

section
namespace DL
open PySem
def putD {κ : Type} [DecidableEq κ] (kvs : List (κ × D)) (k : κ) (v : D) : List (κ × D) :=
  if kvs.any (fun kv => decide (kv.1 = k)) = true then kvs.map fun kv => if kv.1 = k then (kv.1, v) else kv else kvs ++ [(k, v)]
def valD {κ : Type} [DecidableEq κ] (kvs : List (κ × D)) (k : κ) : Option D := (kvs.find? fun kv => decide (kv.1 = k)).map (·.2)
def keyAt (r : Ro) (a : AV) : Option Ky := ((look2 r a).bind Rs.data).bind kyOf
end DL
end

section
namespace DL
open PySem PySem.Spec PyProof.Rows L2
section
variable {K : PySem.W.Frag} {B H : Hp}
theorem key_kV {a : Rs} {v : V} {k : Ky} (h : RsR K B H a v) (e : a.data.bind kyOf = some k) : v = kV k := by
  obtain ⟨d, e1, e2⟩ := Option.bind_eq_some_iff.mp e
  cases d with
  | int i => cases e2; exact rs_int h e1
  | str x => cases e2; exact rs_str h e1
  | _ => cases e2
end
section
variable {X : Cx} {W : WX}
theorem keyAt_of {K : PySem.W.Frag} {B H : Hp} {σ : L2.St} {r : Ro} {O : Addr → Prop} (c : Con K B H σ r O) {a : AV} {k : Ky} {v : V} (h : keyAt r a = some k) (x : AvR K B σ a v) : v = kV k := by
  unfold keyAt at h
  obtain ⟨d, e1, e2⟩ := Option.bind_eq_some_iff.mp h
  obtain ⟨rs, e3, e4⟩ := Option.bind_eq_some_iff.mp e1
  exact key_kV (c.look2_ e3 x) (by rw [e4]; exact e2)
end
end DL
end

section
namespace DL
open PySem
end DL
end

section
namespace DL
open PySem PySem.Spec PyProof.Rows L2
section
variable {prog : Program} {w : World} {A : Around} {E : Value → Shared → Prop} {s : Shared}
end
section
variable {X : Cx} {W : WX}
end
end DL
end

section
namespace DL
open PySem
/-- data of small depth that can be laid -/
def okE (d : D) : Bool := d.canLay0 && decide (d.depth ≤ 40)
def isTup1 : D → Bool
  | .tuple (_ :: _) => true
  | _ => false
def notTN : D → Bool
  | .tuple _ => false
  | .none => false
  | _ => true
/-- data that sorted can compare -/
def srtOk (ds : List D) : Bool := ds.all okE && (ds.all fun d => ds.all fun e => W.alike d e) && (ds.all isTup1 || ds.all notTN || ds.all isTupD)
def srtD (ds : List D) : List D := ds.mergeSort (W.dataLe false id)
def gSort : List Rs → Option RV
  | [a] => match a.data.bind rowOf with
    | some ds => if srtOk ds then some (.new (.lst (srtD ds))) else none
    | none => none
  | _ => none
end DL
end

section
namespace DL
open PySem PySem.Spec PySem.Calls PyProof.Rows L2
open PySem.W (EachIs AllAlike Sortable alike dataLt dataLe SortsAt dataKind)
section
variable {prog : Program} {w : World} {A : Around} {E : Value → Shared → Prop} {s : Shared}
open PySem.SeqAt in
theorem call_tuple_lt {Q : Value → Shared → Prop} {l b : Addr} {items items2 : Array Value} {e r : Nat → Bool} (hl : s.heap.IsTuple l items) (hb : s.heap.IsTuple b items2)
    (he : ∀ j (h1 : j < items.size) (h2 : j < items2.size), EqAt A.in1 s items[j] items2[j] (e j)) (hr : ∀ j (h1 : j < items.size) (h2 : j < items2.size), e j = false → RcLt A.in1 s items[j] items2[j] (r j))
    (h : Q (.bool (firstLt e r (decide (items.size < items2.size)) (List.range (min items.size items2.size)))) s) : wpAny (model prog w) A (call (.builtin "tuple.__lt__") [.ref l, .ref b]) Q E s := by
  obtain ⟨⟨cls, dd, data, sl⟩, ho, hc, n, hd⟩ := id hl
  obtain ⟨⟨cls2, dd2, data2, sl2⟩, ho2, hc2, n2, hd2⟩ := id hb
  simp only at hc hd hc2 hd2
  subst hc hd hc2 hd2
  exact call_meets PySem.F.slot_tuple_lt ⟨_, ho, rfl⟩ PySem.F.entry_tuple_lt (PySem.F.args_tuple_lt_2 _ _) (PySem.SeqAt.tuple_ltAt l b items items2 n n2 dd dd2 sl sl2 e r) ⟨ho, ho2, he, hr, h⟩
/-- one tuple against another, as keys of one type -/
theorem oneLt_tup {xs ys : List D} {a b : Value} {as bs : List Addr} {Q : Bool → Shared → Prop} (ra : Reads s.heap a (.tuple xs) as) (rb : Reads s.heap b (.tuple ys) bs) (h : alike (.tuple xs) (.tuple ys) = true)
    (hu : A.units + min (PyData.depth (.tuple xs)) (PyData.depth (.tuple ys)) < cLine) (hq : Q (dataLt (.tuple xs) (.tuple ys)) s) : wpAny (model prog w) A (oneLt' true a b) Q E s := by
  have hal : PySem.W.alikeAll xs ys = true := by simpa [alike] using h
  cases ra with
  | @tuple l o vs n _ as₁ h1 h2 h3 h4 =>
    cases rb with
    | @tuple l' o' vs' n' _ bs₁ k1 k2 k3 k4 =>
      have n1 : vs.size = xs.length := by simpa using SeqAt.ReadsAll.length _ _ _ h4
      have n2 : vs'.size = ys.length := by simpa using SeqAt.ReadsAll.length _ _ _ k4
      rw [PySem.W.dataLt_tuple, ← PySem.W.firstLt_toks xs ys hal, ← n1, ← n2] at hq
      rw [oneLt'_eq]
      simp only [if_true]
      refine wpAny_bind (wpAny_cRoomFor (SeqAt.room_here hu) ?_)
      refine wpAny_bind (wpAny_callSpecialIfBound?_slot (T := "tuple") ⟨_, h1, h2⟩ PySem.F.slot_tuple_lt (call_tuple_lt (e := PySem.SeqAt.pairEq xs ys) (r := fun j => dataLt (xs.getD j .none) (ys.getD j .none)) ⟨_, h1, h2, _, h3⟩ ⟨_, k1, k2, _, k3⟩ (fun j j1 j2 => ?_) (fun j j1 j2 hj => ?_) ?_))
      · have := PySem.W.eqAt_alikeAll xs ys A.in1 s vs.toList vs'.toList _ _ h4 k4 hal (SeqAt.room_in hu) j (by simpa using j1) (by simpa using j2)
        simpa using this
      · have := PySem.W.rcLt_alikeAll xs ys A.in1 s vs.toList vs'.toList _ _ h4 k4 hal (SeqAt.room_in hu) j (by simpa using j1) (by simpa using j2) hj
        simpa using this
      · exact wpAny_truthy_bool hq
theorem mapM_each {α β : Type} {f : α → PySem.Sem β} {M : Model} : ∀ (l : List α) {Q : List β → Shared → Prop} (k : α → β), (∀ v ∈ l, ∀ (Q' : β → Shared → Prop), Q' (k v) s → wpAny M A (f v) Q' E s) → Q (l.map k) s → wpAny M A (l.mapM f) Q E s
  | [], _, _, _, h => by rw [List.mapM_nil]; exact wpAny_pure h
  | x :: l, Q, k, hf, h => by
    rw [List.mapM_cons]
    exact wpAny_bind (hf x (.head _) _ (wpAny_bind (mapM_each l (Q := fun bs s' => wpAny M A (pure (k x :: bs)) Q E s') k (fun v hv => hf v (.tail _ hv)) (wpAny_pure h))))
/-- the kind of tuples that begin with an empty one -/
theorem kind_empty {v : Value} {vs : List Value} {ds : List D} {Q : PyProof.Rows.SortKind → Shared → Prop} (e : EachIs (fun v d => ∃ as, Reads s.heap v d as) (v :: vs) (.tuple [] :: ds)) (ht : ∀ d ∈ ds, isTupD d = true)
    (h : Q oneType' s) : wpAny (model prog w) A (keyKind' (v :: vs).toArray) Q E s := by
  have each : ∀ u ∈ v :: vs, ∃ a o n, ∃ xs : Array Value, u = .ref a ∧ s.heap.get? a = some o ∧ o.cls = .type "tuple" ∧ o.data = .seq xs n := fun u hu => by
    obtain ⟨d, hd, as, r⟩ := e.left u hu
    have : isTupD d = true := by
      rcases List.mem_cons.mp hd with rfl | hd
      · rfl
      · exact ht d hd
    cases r with
    | @tuple a o xs n _ _ h1 h2 h3 h4 => exact ⟨a, o, n, xs, rfl, h1, h2, h3⟩
    | _ => cases this
  have hv : ∃ a o n, v = .ref a ∧ s.heap.get? a = some o ∧ o.cls = .type "tuple" ∧ o.data = .seq #[] n := by
    cases e with
    | cons h1 t =>
      obtain ⟨as, r⟩ := h1
      cases r with
      | @tuple a o xs n _ _ h1 h2 h3 h4 =>
        have : xs.toList = [] := by
          cases h5 : xs.toList with
          | nil => rfl
          | cons y ys => rw [h5] at h4; cases h4
        have : xs = #[] := by simpa using this
        subst this
        exact ⟨a, o, n, rfl, h1, h2, h3⟩
  let k : Value → Option Value := fun u => match u with
    | .ref a => (s.heap.get? a).bind fun o => match o.data with
      | .seq xs _ => xs[0]?
      | _ => none
    | _ => none
  have hk : ∀ u a o n (xs : Array Value), u = .ref a → s.heap.get? a = some o → o.data = .seq xs n → o.cls = .type "tuple" → k u = xs[0]? := by
    intro u a o n xs e1 e2 e3 e4
    subst e1
    show (s.heap.get? a).bind _ = _
    rw [e2]
    show (match o.data with | .seq xs _ => xs[0]? | _ => none) = _
    rw [e3]
  rw [keyKind'_eq, List.mapM_toArray, map_eq_pure_bind]
  refine wpAny_bind (wpAny_bind (mapM_each _ k (fun u hu Q' hq => ?_) (wpAny_pure ?_)))
  · obtain ⟨a, o, n, xs, rfl, h1, h2, h3⟩ := each u hu
    rw [hk _ a o n xs rfl h1 h3 h2] at hq
    rw [PySem.W.kas_first_eq]
    refine wpAny_bind (PySem.W.Looks.here (show PySem.W.Looks (model prog w) s.heap (typeOf (.ref a)) o.cls from (PySem.W.Looks.ld h1).andThen .now) ?_)
    rw [h2, if_neg (by first | decide | simp)]
    exact wpAny_bind (listItems_at h1 h3 (wpAny_pure hq))
  · obtain ⟨a, o, n, rfl, h1, h2, h3⟩ := hv
    have k0 : k (.ref a) = none := by rw [hk _ a o n #[] rfl h1 h3 h2]; rfl
    rw [List.map_cons, k0, if_neg (by simp), if_neg (by simp)]
    rw [oneTypeOnly'_eq, List.mapM_toArray, map_eq_pure_bind]
    refine wpAny_bind (wpAny_bind (wpAny_bind (PySem.W.kas_mapM (r := .type "tuple") _ (fun u hu Q' hq => ?_) (wpAny_pure ?_))))
    · obtain ⟨a, o, n, xs, rfl, h1, h2, h3⟩ := each u hu
      exact PySem.W.Looks.here (show PySem.W.Looks (model prog w) s.heap (typeOf (.ref a)) (.type "tuple") from h2 ▸ (PySem.W.Looks.ld h1).andThen .now) hq
    · have hall : ((List.map (fun _ => Value.type "tuple") (Value.ref a :: vs)).toArray.all fun x => x == Value.type "tuple") = true := by
        simp only [List.all_toArray, List.all_map, List.all_eq_true]
        intro _ _
        exact beq_self_eq_true (Value.type "tuple")
      have h0 : (List.map (fun _ => Value.type "tuple") (Value.ref a :: vs)).toArray[0]? = some (Value.type "tuple") := by simp
      rw [h0]
      simp only [hall, if_true]
      exact wpAny_pure (wpAny_pure h)
/-- tuples that begin with an empty one can be sorted -/
theorem sortsAt_empty {vs : List Value} {ds : List D} (e : EachIs (fun v d => ∃ as, Reads s.heap v d as) vs (.tuple [] :: ds)) (hal : AllAlike (.tuple [] :: ds)) (ht : ∀ d ∈ ds, isTupD d = true) (hu : ∀ d ∈ (.tuple [] :: ds : List D), A.units + d.depth < cLine) :
    SortsAt prog w A s (dataKind s.heap (.tuple [] :: ds)) vs := by
  have room : ∀ {d d' : PyData}, d ∈ (.tuple [] :: ds : List D) → A.units + min d.depth d'.depth < cLine := fun {d d'} hd => Nat.lt_of_le_of_lt (Nat.add_le_add_left (Nat.min_le_left _ _) _) (hu d hd)
  have tup : ∀ d ∈ (.tuple [] :: ds : List D), ∃ xs, d = .tuple xs := fun d hd => by
    rcases List.mem_cons.mp hd with rfl | hd
    · exact ⟨_, rfl⟩
    · have := ht d hd
      cases d with
      | tuple xs => exact ⟨xs, rfl⟩
      | _ => cases this
  refine ⟨fun v hv => ?_, oneType', ?_, fun h2 E Q hq => ?_⟩
  · obtain ⟨d, hd, as, r⟩ := e.left v hv
    exact ⟨_, PySem.W.dataKind_some hal hd r⟩
  · intro E x y a b Q ha hb hq
    obtain ⟨d, as, hd, ra, rfl⟩ := PySem.W.dataKind_inv ha
    obtain ⟨d', as', hd', rb, rfl⟩ := PySem.W.dataKind_inv hb
    rw [keyLt'_oneType]
    obtain ⟨xs, rfl⟩ := tup d hd
    obtain ⟨ys, rfl⟩ := tup d' hd'
    exact oneLt_tup ra rb (hal _ hd _ hd') (room hd) hq
  · cases e with
    | cons h1 t => exact kind_empty (.cons h1 t) ht hq
theorem keyLt'_general (x y : Value) : keyLt' general' x y = oneLt' false x y := rfl
theorem oneLt_gen {a b : Value} {d d' : D} {as bs : List Addr} {Q : Bool → Shared → Prop} (ra : Reads s.heap a d as) (rb : Reads s.heap b d' bs) (h : alike d d' = true) (hn : d ≠ .none)
    (hu : A.units + min d.depth d'.depth < cLine) (hq : Q (dataLt d d') s) : wpAny (model prog w) A (oneLt' false a b) Q E s := by
  rw [oneLt'_eq]
  simp only [Bool.false_eq_true, if_false]
  exact wpAny_bind (PySem.W.rcLt_alike d d' A s a b as bs ra rb h hn hu prog w E _ (wpAny_truthy_bool hq))
/-- the kind of tuples of which the first is not empty, another one is -/
theorem kind_mixed {v : Value} {vs : List Value} {x : D} {xs0 : List D} {ds : List D} {Q : PyProof.Rows.SortKind → Shared → Prop} (e : EachIs (fun v d => ∃ as, Reads s.heap v d as) (v :: vs) (.tuple (x :: xs0) :: ds)) (ht : ∀ d ∈ ds, isTupD d = true) (hx : .tuple [] ∈ ds)
    (h : Q general' s) : wpAny (model prog w) A (keyKind' (v :: vs).toArray) Q E s := by
  have each : ∀ u ∈ v :: vs, ∃ a o n, ∃ xs : Array Value, u = .ref a ∧ s.heap.get? a = some o ∧ o.cls = .type "tuple" ∧ o.data = .seq xs n := fun u hu => by
    obtain ⟨d, hd, as, r⟩ := e.left u hu
    have : isTupD d = true := by
      rcases List.mem_cons.mp hd with rfl | hd
      · rfl
      · exact ht d hd
    cases r with
    | @tuple a o xs n _ _ h1 h2 h3 h4 => exact ⟨a, o, n, xs, rfl, h1, h2, h3⟩
    | _ => cases this
  have hv : ∃ a o n, ∃ xs : Array Value, v = .ref a ∧ s.heap.get? a = some o ∧ o.cls = .type "tuple" ∧ o.data = .seq xs n ∧ xs[0]?.isSome = true := by
    cases e with
    | cons h1 t =>
      obtain ⟨as, r⟩ := h1
      cases r with
      | @tuple a o xs n _ _ h1 h2 h3 h4 =>
        refine ⟨a, o, n, xs, rfl, h1, h2, h3, ?_⟩
        have hl := SeqAt.ReadsAll.length _ _ _ h4
        have : 0 < xs.size := by simp at hl; omega
        simp [this]
  have hz : ∃ u ∈ v :: vs, ∃ a o n, u = .ref a ∧ s.heap.get? a = some o ∧ o.cls = .type "tuple" ∧ o.data = .seq #[] n := by
    have e2 : ∃ u ∈ vs, ∃ as, Reads s.heap u (.tuple []) as := by
      cases e with
      | cons h1 t =>
        clear h1
        clear each hv ht
        induction t with
        | nil => cases hx
        | @cons u d us ds h2 t ih =>
          rcases List.mem_cons.mp hx with rfl | hx
          · exact ⟨u, by simp, h2⟩
          · obtain ⟨z, hz, hz2⟩ := ih hx
            exact ⟨z, by simp [hz], hz2⟩
    obtain ⟨u, hu, as, r⟩ := e2
    cases r with
    | @tuple a o xs n _ _ h1 h2 h3 h4 =>
      have : xs.toList = [] := by
        cases h5 : xs.toList with
        | nil => rfl
        | cons y ys => rw [h5] at h4; cases h4
      have : xs = #[] := by simpa using this
      subst this
      exact ⟨_, by simp [hu], a, o, n, rfl, h1, h2, h3⟩
  let k : Value → Option Value := fun u => match u with
    | .ref a => (s.heap.get? a).bind fun o => match o.data with
      | .seq xs _ => xs[0]?
      | _ => none
    | _ => none
  have hk : ∀ u a o n (xs : Array Value), u = .ref a → s.heap.get? a = some o → o.data = .seq xs n → o.cls = .type "tuple" → k u = xs[0]? := by
    intro u a o n xs e1 e2 e3 e4
    subst e1
    show (s.heap.get? a).bind _ = _
    rw [e2]
    show (match o.data with | .seq xs _ => xs[0]? | _ => none) = _
    rw [e3]
  rw [keyKind'_eq, List.mapM_toArray, map_eq_pure_bind]
  refine wpAny_bind (wpAny_bind (mapM_each _ k (fun u hu Q' hq => ?_) (wpAny_pure ?_)))
  · obtain ⟨a, o, n, xs, rfl, h1, h2, h3⟩ := each u hu
    rw [hk _ a o n xs rfl h1 h3 h2] at hq
    rw [PySem.W.kas_first_eq]
    refine wpAny_bind (PySem.W.Looks.here (show PySem.W.Looks (model prog w) s.heap (typeOf (.ref a)) o.cls from (PySem.W.Looks.ld h1).andThen .now) ?_)
    rw [h2, if_neg (by first | decide | simp)]
    exact wpAny_bind (listItems_at h1 h3 (wpAny_pure hq))
  · have hall : (List.map k (v :: vs)).toArray.all (fun o => o.isSome) = false := by
      obtain ⟨u, hu, a, o, n, e1, h1, h2, h3⟩ := hz
      have k0 : k u = none := by rw [hk u a o n #[] e1 h1 h3 h2]; rfl
      rw [List.all_toArray, Bool.eq_false_iff]
      intro hh
      have := List.all_eq_true.mp hh (k u) (List.mem_map.mpr ⟨u, hu, rfl⟩)
      rw [k0] at this
      cases this
    obtain ⟨a, o, n, xs, e1, h1, h2, h3, h4⟩ := hv
    have k1 : (k v).isSome = true := by rw [hk v a o n xs e1 h1 h3 h2]; exact h4
    rw [if_neg (by rw [hall]; simp), if_pos (by simpa using k1)]
    exact wpAny_pure h
/-- .. can be sorted, too -/
theorem sortsAt_mixed {vs : List Value} {x : D} {xs0 : List D} {ds : List D} (e : EachIs (fun v d => ∃ as, Reads s.heap v d as) vs (.tuple (x :: xs0) :: ds)) (hal : AllAlike (.tuple (x :: xs0) :: ds)) (ht : ∀ d ∈ ds, isTupD d = true) (hx : .tuple [] ∈ ds) (hu : ∀ d ∈ (.tuple (x :: xs0) :: ds : List D), A.units + d.depth < cLine) :
    SortsAt prog w A s (dataKind s.heap (.tuple (x :: xs0) :: ds)) vs := by
  have room : ∀ {d d' : PyData}, d ∈ (.tuple (x :: xs0) :: ds : List D) → A.units + min d.depth d'.depth < cLine := fun {d d'} hd => Nat.lt_of_le_of_lt (Nat.add_le_add_left (Nat.min_le_left _ _) _) (hu d hd)
  have tup : ∀ d ∈ (.tuple (x :: xs0) :: ds : List D), ∃ xs, d = .tuple xs := fun d hd => by
    rcases List.mem_cons.mp hd with rfl | hd
    · exact ⟨_, rfl⟩
    · have := ht d hd
      cases d with
      | tuple xs => exact ⟨xs, rfl⟩
      | _ => cases this
  refine ⟨fun v hv => ?_, general', ?_, fun h2 E Q hq => ?_⟩
  · obtain ⟨d, hd, as, r⟩ := e.left v hv
    exact ⟨_, PySem.W.dataKind_some hal hd r⟩
  · intro E x y a b Q ha hb hq
    obtain ⟨d, as, hd, ra, rfl⟩ := PySem.W.dataKind_inv ha
    obtain ⟨d', as', hd', rb, rfl⟩ := PySem.W.dataKind_inv hb
    rw [keyLt'_general]
    refine oneLt_gen ra rb (hal _ hd _ hd') (fun hn => ?_) (room hd) hq
    obtain ⟨xs, rfl⟩ := tup d hd
    cases hn
  · cases e with
    | cons h1 t => exact kind_mixed (.cons h1 t) ht hx hq
end
end DL
end

section
namespace DL
open PySem PySem.Spec PySem.Calls PyProof.Rows L2
open PySem.W (EachIs AllAlike Sortable alike dataLt dataLe SortsAt dataKind)
section
variable {prog : Program} {w : World} {A : Around} {E : Value → Shared → Prop} {s : Shared}
theorem collect_tuple {l : Addr} {vs : List Value} {Q : List Value → Shared → Prop} (hl : s.heap.IsTuple l vs.toArray)
    (h : Q vs { s with heap := (s.heap.push (seqObj "list" #[] 0)).update s.heap.objs.size (Obj.mapSeq (· ++ vs.toArray)) }) (hsz : vs.length ≤ sizeLine) :
    wpAny (model prog w) A (collect (.ref l)) Q E s := by
  obtain ⟨o, ho, hc, n, hd⟩ := id hl
  unfold collect
  refine wpAny_bind (wpAny_runValue (codeAny_builtin entry_proto_collect' ?_))
  show wpAny _ _ (do again (.builtin "list.__iadd__" ⟨[← newList [], .ref l], []⟩)) _ _ s
  refine wpAny_bind (wpAny_newList (wpAny_pure ⟨Code.quiet_builtin _ (by decide +kernel), codeAny_builtin entry_list_iadd' ?_⟩))
  show wpAny _ _ (Builtin.List.listExtendWith (.ref s.heap.objs.size) (.ref l) (.ref s.heap.objs.size)) _ _ { s with heap := s.heap.push (seqObj "list" #[] 0) }
  unfold Builtin.List.listExtendWith
  have ho' : (s.heap.push (seqObj "list" #[] 0)).get? l = some o := Heap.get?_push_of_some _ ho
  refine wpAny_bind (wpAny_typeOf (T := "tuple") ⟨o, ho', hc⟩ ?_)
  have ht : (Value.type "tuple" == Value.type "tuple") = true := by rfl
  rw [if_pos (by rw [ht]; simp)]
  refine wpAny_bind (listItems_at ho' hd ?_)
  refine wpAny_bind (listItems_at (xs := #[]) (n := 0) (Heap.get?_push_size _ rfl) rfl ?_)
  rw [if_neg (by simp)]
  refine wpAny_bind (listUpdate_at (xs := #[]) (n := 0) (Heap.get?_push_size _ rfl) rfl ?_ (Nat.zero_le _) (by show (#[] ++ vs.toArray).size ≤ sizeLine + 1; simp only [Array.size_append, List.size_toArray, List.length_nil]; omega))
  refine wpAny_pure ?_
  show wpAny (model prog w) A (do
      let o ← load s.heap.objs.size
      match o.data with
      | .seq xs _ => pure xs.toList
      | _ => unsupported "internal:collect") Q E { s with heap := (s.heap.push (seqObj "list" #[] 0)).update s.heap.objs.size (Obj.mapSeq (· ++ vs.toArray)) }
  refine wpAny_bind (wpAny_load (get?_update_seq (Heap.get?_push_size _ rfl) _) ?_)
  show wpAny _ _ (pure ((#[] : Array Value) ++ vs.toArray).toList) Q E _
  rw [show ((#[] : Array Value) ++ vs.toArray).toList = vs by simp]
  exact wpAny_pure h
/-- sorted of a list or of a tuple -/
theorem sorted_any {κ : PyProof.Rows.KeyKind} {l : Addr} {vs : List Value} {Q : Value → Shared → Prop} (hl : s.heap.IsList l vs.toArray ∨ s.heap.IsTuple l vs.toArray)
    (S : SortsAt prog w A.in1.in1 { s with heap := PySem.W.sortingHeap (PySem.W.copyHeap s.heap vs) (s.heap.objs.size + 1) vs } κ vs) (hL : vs.length ≤ sizeLine)
    (h : Q (.ref (s.heap.objs.size + 1)) { s with heap := sortedAll s.heap vs (PySem.W.sortVals κ false vs vs).toArray }) : wpAny (model prog w) A (call (.builtin "sorted") [.ref l]) Q E s := by
  rcases hl with hl | hl
  · exact PySem.W.sorted_vals hl S hL h
  · refine PyProof.Rows.call_function_entry_kw kind_sorted plain_sorted entry_sorted (args_sorted1 _) ?_
    unfold Builtin.«sorted»
    refine wpAny_bind (m := checkCount "sorted" 1 1 _) (wpAny_pure ?_)
    refine wpAny_bind (collect_tuple hl ?_ hL)
    refine wpAny_bind (wpAny_newList ?_ hL)
    have hsz : ((s.heap.push (seqObj "list" #[] 0)).update s.heap.objs.size (Obj.mapSeq (· ++ vs.toArray))).objs.size = s.heap.objs.size + 1 := by
      rw [Heap.size_update, size_push']
    show wpAny _ _ _ _ _ { s with heap := PySem.W.copyHeap s.heap vs }
    rw [hsz]
    refine wpAny_bind (wpAny_holding (wpAny_call_entry_kw slot_list_sort ⟨_, PySem.W.copyHeap_at s.heap vs, rfl⟩ entry_list_sort ?body (args_list_sort _)))
    case body =>
      show wpAny (model prog w) A.in1.in1 (Builtin.«list.sort» ⟨[.ref (s.heap.objs.size + 1)], []⟩) _ _ _
      refine PySem.W.list_sort_vals (s := { s with heap := PySem.W.copyHeap s.heap vs }) (PySem.W.copyHeap_at s.heap vs) S hL ⟨_, rfl, wpAny_pure ⟨_, rfl, h⟩⟩
end
theorem each_zip {α β γ : Type} {R : α → β → Prop} {S : β → γ → Prop} {T : α → β × γ → Prop} (hT : ∀ a b c, R a b → S b c → T a (b, c)) : ∀ {as : List α} {bs : List β} {cs : List γ}, EachIs R as bs → EachIs S bs cs → EachIs T as (bs.zip cs)
  | _, _, _, .nil, .nil => .nil
  | _, _, _, .cons a t, .cons b u => .cons (hT _ _ _ a b) (each_zip hT t u)
theorem each_dq {K : PySem.W.Frag} {H : Hp} : ∀ {vs : List V} {ds : List D}, DqAll K H vs ds → EachIs (Dq K H) vs ds
  | _, _, .nil => .nil
  | _, _, .cons a t => .cons a (each_dq t)
theorem dq_each {K : PySem.W.Frag} {H : Hp} : ∀ {vs : List V} {ds : List D}, EachIs (Dq K H) vs ds → DqAll K H vs ds
  | _, _, .nil => .nil
  | _, _, .cons a t => .cons a (dq_each t)
theorem each_vals : ∀ {xs : List V} {us : List Value}, Vals xs us → EachIs (fun u x => RelV x u) us xs
  | _, _, .nil => .nil
  | _, _, .cons a t => .cons a (each_vals t)
theorem vals_each : ∀ {us : List Value} {xs : List V}, EachIs (fun u x => RelV x u) us xs → Vals xs us
  | _, _, .nil => .nil
  | _, _, .cons a t => .cons a (vals_each t)
theorem each_fst {α β γ : Type} {R : α → β × γ → Prop} {S : α → β → Prop} (h : ∀ a p, R a p → S a p.1) : ∀ {as : List α} {ps : List (β × γ)}, EachIs R as ps → EachIs S as (ps.map (·.1))
  | _, _, .nil => .nil
  | _, _, .cons a t => .cons (h _ _ a) (each_fst h t)
theorem each_pair {α β γ : Type} {R : α → β × γ → Prop} {S : β → γ → Prop} (h : ∀ a p, R a p → S p.1 p.2) : ∀ {as : List α} {ps : List (β × γ)}, EachIs R as ps → EachIs S (ps.map (·.1)) (ps.map (·.2))
  | _, _, .nil => .nil
  | _, _, .cons a t => .cons (h _ _ a) (each_pair h t)
theorem okE_lay {d : D} (h : okE d = true) : d.canLay0 = true := (Bool.and_eq_true_iff.mp h).1
theorem okE_dep {d : D} (h : okE d = true) : d.depth ≤ 40 := of_decide_eq_true (Bool.and_eq_true_iff.mp h).2
section
variable {X : Cx} {W : WX}
theorem cd_sorted (hu : X.A.units + 64 < cLine) : CallD X (.builtin "sorted") gSort := by
  intro pins s σ H vs us Q I r ⟨B, as, z, sb, p, hg, q⟩
  unfold gSort at hg
  split at hg
  · rename_i a
    split at hg
    · rename_i ds e
      split at hg
      · rename_i hok
        cases hg
        obtain ⟨d, e1, e2⟩ := Option.bind_eq_some_iff.mp e
        cases p with
        | cons p1 p =>
          cases p
          -- where the items lie
          rename_i w
          have hrow : ∃ l ms its, w = V.ref l ∧ (s.heap.IsList l its.toArray ∨ s.heap.IsTuple l its.toArray) ∧ Vals ms its ∧ DqAll X.K B ms ds ∧ ms.length ≤ sizeLine := by
            rcases row_of e2 with rfl | rfl
            · obtain ⟨l, ms, ev, g1, g2⟩ := rs_list sb p1 e1
              obtain ⟨its, rv, hl, hz⟩ := I.list (SqL.of (K := X.K) g1)
              exact ⟨l, ms, its, ev, .inl hl.isList, rv, g2, hz⟩
            · obtain ⟨l, ms, ev, g1, g2⟩ := rs_tuple sb p1 e1
              obtain ⟨its, rv, hl, hz⟩ := I.tuple (g1.sq (K := X.K))
              refine ⟨l, ms, its, ev, .inr ?_, rv, g2, hz⟩
              obtain ⟨o, ho, hc, n, hd⟩ := hl
              exact ⟨o, ho, hc, n, hd⟩
          obtain ⟨l, ms, its, rfl, hl, rv, dq, hz⟩ := hrow
          cases Vals.ref1 r
          simp only [srtOk, Bool.and_eq_true] at hok
          obtain ⟨⟨o1, o2⟩, o3⟩ := hok
          have okds : ∀ d ∈ ds, okE d = true := fun d hd => List.all_eq_true.mp o1 d hd
          have hal : AllAlike ds := fun d hd e he => List.all_eq_true.mp (List.all_eq_true.mp o2 d hd) e he
          have lens : its.length = ds.length := by rw [← rv.length, dq.length]
          have ev := each_vals rv
          have ed := each_dq dq
          -- pairs of a value and its data
          let bs : List (V × D) := ms.zip ds
          let R : Value → V × D → Prop := fun u p => RelV p.1 u ∧ Dq X.K B p.1 p.2 ∧ okE p.2 = true
          have hsnd : bs.map Prod.snd = ds := by
            show (ms.zip ds).map Prod.snd = ds
            rw [List.map_snd_zip]
            rw [dq.length]
            exact Nat.le_refl _
          have eR : EachIs R its bs := by
            have ed2 : EachIs (fun v d => Dq X.K B v d ∧ okE d = true) ms ds := (PySem.W.each_mem ed).mono fun v d h => ⟨h.1, okds d h.2⟩
            exact each_zip (fun a b c h1 h2 => ⟨h1, h2.1, h2.2⟩) ev ed2
          have rd : ∀ u p, R u p → ∃ as, Reads s.heap u p.2 as := fun u p h => Dp.reads I p.2 p.1 u (dq_dp (dp_same sb h.2.1) (okE_lay h.2.2)) h.1
          have er : EachIs (fun v b => ∃ as, Reads s.heap v (Prod.snd b) as) its bs := eR.mono fun u p h => rd u p h
          have er' : EachIs (fun v b => ∃ as, Reads (PySem.W.sortingHeap (PySem.W.copyHeap s.heap its) (s.heap.objs.size + 1) its) v (Prod.snd b) as) its bs := er.mono fun _ _ ⟨as, r⟩ => ⟨as, PyProof.Rows.Reads.keeps (fun _ _ => PySem.W.sorting_copy_old) r⟩
          have er2 := PySem.W.each_map (R := fun v d => ∃ as, Reads (PySem.W.sortingHeap (PySem.W.copyHeap s.heap its) (s.heap.objs.size + 1) its) v d as) Prod.snd er'
          have hub : ∀ d ∈ ds, X.A.in1.in1.units + d.depth < cLine := fun d hd => by
            have := okE_dep (okds d hd)
            show X.A.units + 1 + 1 + d.depth < cLine
            omega
          have S : SortsAt X.prog X.w X.A.in1.in1 { s with heap := PySem.W.sortingHeap (PySem.W.copyHeap s.heap its) (s.heap.objs.size + 1) its } (dataKind (PySem.W.sortingHeap (PySem.W.copyHeap s.heap its) (s.heap.objs.size + 1) its) (bs.map Prod.snd)) its := by
            rw [hsnd] at er2 ⊢
            simp only [Bool.or_eq_true] at o3
            rcases o3 with (o3 | o3) | o3
            · refine SortsAt.data (s := { s with heap := PySem.W.sortingHeap (PySem.W.copyHeap s.heap its) (s.heap.objs.size + 1) its }) er2 hal (.inl fun d hd => ?_) hub
              have := List.all_eq_true.mp o3 d hd
              unfold isTup1 at this
              split at this
              · exact ⟨_, _, rfl⟩
              · cases this
            · refine SortsAt.data (s := { s with heap := PySem.W.sortingHeap (PySem.W.copyHeap s.heap its) (s.heap.objs.size + 1) its }) er2 hal (.inr fun d hd => ?_) hub
              have := List.all_eq_true.mp o3 d hd
              unfold notTN at this
              split at this
              · cases this
              · cases this
              · rename_i n1 n2
                exact ⟨n2, n1⟩
            · have o4 := List.all_eq_true.mp o3
              cases ds with
              | nil => exact SortsAt.data (s := { s with heap := PySem.W.sortingHeap (PySem.W.copyHeap s.heap its) (s.heap.objs.size + 1) its }) er2 hal (.inl fun d hd => by cases hd) hub
              | cons d0 ds' =>
                have h0 := o4 d0 (List.mem_cons_self ..)
                have ht : ∀ d ∈ ds', isTupD d = true := fun d hd => o4 d (List.mem_cons_of_mem _ hd)
                cases d0 with
                | tuple l0 =>
                  cases l0 with
                  | nil => exact sortsAt_empty (s := { s with heap := PySem.W.sortingHeap (PySem.W.copyHeap s.heap its) (s.heap.objs.size + 1) its }) er2 hal ht hub
                  | cons y ys =>
                    by_cases hx : (.tuple [] : D) ∈ ds'
                    · exact sortsAt_mixed (s := { s with heap := PySem.W.sortingHeap (PySem.W.copyHeap s.heap its) (s.heap.objs.size + 1) its }) er2 hal ht hx hub
                    · refine SortsAt.data (s := { s with heap := PySem.W.sortingHeap (PySem.W.copyHeap s.heap its) (s.heap.objs.size + 1) its }) er2 hal (.inl fun d hd => ?_) hub
                      rcases List.mem_cons.mp hd with rfl | hd
                      · exact ⟨_, _, rfl⟩
                      · have h1 := ht d hd
                        cases d with
                        | tuple l =>
                          cases l with
                          | nil => exact absurd hd hx
                          | cons z zs => exact ⟨_, _, rfl⟩
                        | _ => cases h1
                | _ => cases h0
          have hL : its.length ≤ sizeLine := by rw [← rv.length]; exact hz
          refine sorted_any hl S hL ?_
          have out : EachIs R (PySem.W.sortVals (dataKind (PySem.W.sortingHeap (PySem.W.copyHeap s.heap its) (s.heap.objs.size + 1) its) (bs.map Prod.snd)) false its its) (bs.mergeSort (dataLe false Prod.snd)) :=
            PySem.W.sortVals_data false eR er' (by rw [hsnd]; exact hal)
          generalize PySem.W.sortVals (dataKind (PySem.W.sortingHeap (PySem.W.copyHeap s.heap its) (s.heap.objs.size + 1) its) (bs.map Prod.snd)) false its its = outs at out
          have hm : (bs.mergeSort (dataLe false Prod.snd)).map Prod.snd = srtD ds := by
            unfold srtD
            rw [← hsnd]
            exact PySem.W.sort_maps Prod.snd fun a _ b _ => rfl
          have v1 : Vals ((bs.mergeSort (dataLe false Prod.snd)).map Prod.fst) outs := vals_each (each_fst (fun u p h => h.1) out)
          have d1 : DqAll X.K B ((bs.mergeSort (dataLe false Prod.snd)).map Prod.fst) (srtD ds) := by
            rw [← hm]
            exact dq_each (each_pair (R := R) (fun u p h => h.2.1) out)
          obtain ⟨ep, he'⟩ := PyProof.Rows.sortedAll_at s.heap its outs.toArray
          have hlen : ((bs.mergeSort (dataLe false Prod.snd)).map Prod.fst).length ≤ sizeLine := by
            rw [d1.length]
            unfold srtD
            rw [List.length_mergeSort, ← lens]
            exact hL
          exact ⟨.ref _, upd H (s.heap.objs.size + 1) (.lst _), I.laid (t' := s.toks) (fun _ _ => PyProof.Rows.sortedAll_old) (Nat.le_succ _) ⟨hlen, outs, ep, v1, by simpa using he'⟩, rfl, alc_lst q d1 _ (I.hok.fresh (Nat.le_succ _))⟩
      · cases hg
    · cases hg
  · cases hg
end
end DL
end

section
namespace DL
open PySem PySem.Spec PySem.Calls PyProof.Rows L2
open PySem.W (EachIs alike dataLt)
section
variable {X : Cx} {W : WX}
theorem lay_all {ds : List D} (h : ∀ d ∈ ds, okE d = true) : PyData.canLayAll0 ds = true ∧ PyData.depthAll ds ≤ 40 := by
  induction ds with
  | nil => exact ⟨by simp [PyData.canLayAll0], by simp [PyData.depthAll]⟩
  | cons d ds ih =>
    obtain ⟨h1, h2⟩ := ih fun e he => h e (by simp [he])
    have h3 := h d (by simp)
    have h4 := okE_dep h3
    exact ⟨by simp only [PyData.canLayAll0, okE_lay h3, h1, Bool.and_self], by simp only [PyData.depthAll]; omega⟩
/-- a row looked at -/
theorem row_at {pins : List (Addr × Obj)} {σ : L2.St} {B H : Hp} {s : Shared} (I : Inv X pins σ H s) (sb : Same B H) {a : Rs} {w : V} {ds : List D} (p1 : RsR X.K B H a w) (e : a.data.bind rowOf = some ds) :
    ∃ l ms its, w = V.ref l ∧ (s.heap.IsList l its.toArray ∨ s.heap.IsTuple l its.toArray) ∧ Vals ms its ∧ DqAll X.K B ms ds ∧ ms.length ≤ sizeLine := by
  obtain ⟨d, e1, e2⟩ := Option.bind_eq_some_iff.mp e
  rcases row_of e2 with rfl | rfl
  · obtain ⟨l, ms, ev, g1, g2⟩ := rs_list sb p1 e1
    obtain ⟨its, rv, hl, hz⟩ := I.list (SqL.of (K := X.K) g1)
    exact ⟨l, ms, its, ev, .inl hl.isList, rv, g2, hz⟩
  · obtain ⟨l, ms, ev, g1, g2⟩ := rs_tuple sb p1 e1
    obtain ⟨its, rv, hl, hz⟩ := I.tuple (g1.sq (K := X.K))
    refine ⟨l, ms, its, ev, .inr ?_, rv, g2, hz⟩
    obtain ⟨o, ho, hc, n, hd⟩ := hl
    exact ⟨o, ho, hc, n, hd⟩
end
end DL
end

section
namespace DL
open PySem
end DL
end

section
namespace DL
open PySem
end DL
end

section
namespace DL
open PySem
end DL
end

section
namespace DL
open PySem PySem.Spec PySem.Calls PyProof.Rows L2
open PySem.Sem (wp)
section
variable {prog : Program} {w : World} {A : Around} {E : Value → Shared → Prop} {s : Shared}
end
section
variable {prog : Program} {w : World} {A : Around} {E : Value → Shared → Prop} {s : Shared}
end
section
variable {X : Cx} {W : WX}
end
end DL
end

section
namespace DL
open PySem PySem.Spec PySem.Calls PyProof.Rows L2
section
variable {X : Cx} {W : WX}
theorem md_pop : MutD X "list.pop" gPop := by
  intro pins s σ H x vs v us Q I rx rs h
  obtain ⟨B, l, xs, ds, es, ds', d, sb, rfl, hH, hd, he, hg, q⟩ := h
  unfold gPop at hg
  split at hg
  · obtain ⟨d0, e1, e2⟩ := Option.map_eq_some_iff.mp hg
    cases e2
    cases he
    obtain ⟨y, g1, g2⟩ := hd.get e1
    exact mt_pop pins s σ H _ _ v us Q I rx rs ⟨l, xs, y, rfl, rfl, hH, by rw [hd.length]; exact g1, q _ _ hd.dropLast g2⟩
  · rename_i i
    split at hg
    · rename_i hi
      obtain ⟨k, e1, e2⟩ := Option.bind_eq_some_iff.mp hg
      obtain ⟨d0, e3, e4⟩ := Option.map_eq_some_iff.mp e2
      cases e4
      cases he with
      | cons h1 t =>
        cases t
        cases dp_int h1
        obtain ⟨y, g1, g2⟩ := hd.get e3
        exact mt_popAt pins s σ H _ _ v us Q I rx rs ⟨l, xs, i, k, y, rfl, rfl, hH, hi.1, hi.2, by rw [hd.length]; exact (ixN_seq e1).1, g1, q _ _ (hd.eraseIdx k) g2⟩
    · cases hg
  · cases hg
end
end DL
end

section
namespace DL
open PySem PySem.Spec PySem.Calls PyProof.Rows L2
section
variable {X : Cx} {W : WX}
end
end DL
end

section
namespace DL
open PySem
end DL
end

section
namespace DL
open PySem PySem.Spec PyProof.Rows L2
section
variable {X : Cx} {W : WX}
end
end DL
end

section
namespace DL
open PySem
def putL (kvs : List (Ky × List D)) (k : Ky) (d : D) : List (Ky × List D) :=
  if kvs.any (fun kv => decide (kv.1 = k)) then kvs.map (fun kv => if kv.1 = k then (kv.1, kv.2 ++ [d]) else kv) else kvs ++ [(k, [d])]
def lookL (kvs : List (Ky × List D)) (n : Int) : List D := ((kvs.find? fun kv => decide (kv.1 = .inl n)).map (·.2)).getD []
def dins (n : Int) : List Int → List Int
  | [] => [n]
  | m :: t => if n < m then n :: m :: t else if n = m then m :: t else m :: dins n t
/-- the numbers, each once, rising -/
def dsort (ns : List Int) : List Int := ns.foldr dins []
end DL
end

section
namespace DL
open PySem PySem.Spec PyProof.Rows L2
section
variable {K : PySem.W.Frag} {B H H' : Hp} {σ σ' : L2.St} {r : Ro} {O : Addr → Prop}
end
section
variable {X : Cx} {W : WX}
end
end DL
end

section
namespace DL
open PySem PySem.Spec PyProof.Rows L2
section
variable {X : Cx} {W : WX}
end
end DL
end

section
namespace DL
open PySem PySem.Spec PyProof.Rows L2
section
variable {P : Program} {w : World} {A : Around} {E : Value → Shared → Prop} {s : Shared}
end
end DL
end

section
namespace DL
open PySem PySem.Spec PyProof.Rows L2
theorem dins_mem {n k : Int} : ∀ {l : List Int}, k ∈ dins n l ↔ k = n ∨ k ∈ l
  | [] => by simp [dins]
  | m :: t => by
    unfold dins
    split
    · simp
    · split
      · rename_i h; subst h; simp
      · rw [List.mem_cons, dins_mem, List.mem_cons]
        constructor
        · rintro (h | h | h) <;> simp [h]
        · rintro (h | h | h) <;> simp [h]
theorem dins_pw {n : Int} : ∀ {l : List Int}, l.Pairwise (· < ·) → (dins n l).Pairwise (· < ·)
  | [], _ => by simp [dins]
  | m :: t, h => by
    obtain ⟨h1, h2⟩ := List.pairwise_cons.mp h
    unfold dins
    split
    · rename_i q
      refine List.pairwise_cons.mpr ⟨fun k hk => ?_, h⟩
      rcases List.mem_cons.mp hk with rfl | hk
      · exact q
      · have := h1 k hk
        omega
    · split
      · exact h
      · refine List.pairwise_cons.mpr ⟨fun k hk => ?_, dins_pw h2⟩
        rcases dins_mem.mp hk with rfl | hk
        · omega
        · exact h1 k hk
theorem dsort_mem {k : Int} : ∀ {l : List Int}, k ∈ dsort l ↔ k ∈ l
  | [] => by simp [dsort]
  | n :: t => by
    show k ∈ dins n (dsort t) ↔ _
    rw [dins_mem, dsort_mem, List.mem_cons]
theorem dsort_pw : ∀ l : List Int, (dsort l).Pairwise (· < ·)
  | [] => .nil
  | n :: t => dins_pw (dsort_pw t)
theorem dsort_uniq {ns ys : List Int} (h1 : ys.Pairwise (· < ·)) (h2 : ∀ k, k ∈ ys ↔ k ∈ ns) : ys = dsort ns := by
  have nd : ∀ l : List Int, l.Pairwise (· < ·) → l.Nodup := fun l h => by
    rw [List.nodup_iff_pairwise_ne]
    exact h.imp fun h => by omega
  refine List.Perm.eq_of_pairwise (le := (· < ·)) (fun a b _ _ h1 h2 => by omega) h1 (dsort_pw ns) ((List.perm_ext_iff_of_nodup (nd _ h1) (nd _ (dsort_pw ns))).mpr fun k => ?_)
  rw [h2, dsort_mem]
section
variable {X : Cx} {W : WX}
end
end DL
end

section
namespace DL
open PySem PySem.Spec PyProof.Rows L2
section
variable {K : PySem.W.Frag} {B H B' H' : Hp} {σ : L2.St} {r : Ro} {O O' : Addr → Prop}
end
section
variable {X : Cx} {W : WX}
end
end DL
end

section
namespace DL
open PySem PySem.Spec PyProof.Rows L2
section
variable {X : Cx} {W : WX}
end
end DL
end

section
namespace DL
open PySem PySem.Spec PySem.Calls PyProof.Rows L2
section
variable {K : PySem.W.Frag} {B H : Hp} {σ : L2.St} {r : Ro} {O : Addr → Prop}
theorem get_snoc {α : Type} {l : List α} {x y : α} {i : Nat} (h : (l ++ [x])[i]? = some y) : (i < l.length ∧ l[i]? = some y) ∨ (i = l.length ∧ y = x) := by
  by_cases hi : i < l.length
  · rw [List.getElem?_append_left hi] at h
    exact .inl ⟨hi, h⟩
  · rw [List.getElem?_append_right (by omega)] at h
    by_cases h2 : i = l.length
    · subst h2
      simp at h
      exact .inr ⟨rfl, h.symm⟩
    · rw [List.getElem?_eq_none (by simp; omega)] at h
      cases h
theorem Con.snoc (c : Con K B H σ r O) {ct : Ct} {l : Addr} {F : List Addr} (o : OwnR K B H ct l F) (hF : ∀ a ∈ F, B a = none ∧ ¬ O a) (hn : noAl r r.length = true) :
    Con K B H (σ ++ [some (V.ref l)]) (r ++ [.own false ct]) (fun a => O a ∨ a ∈ F) := by
  have sg : ∀ {i : Nat} {x : Option V}, i < r.length → σ[i]? = some x → (σ ++ [some (V.ref l)])[i]? = some x := fun h e => by
    rw [List.getElem?_append_left (by rw [← c.len]; exact h)]
    exact e
  have sl : (σ ++ [some (V.ref l)])[r.length]? = some (some (V.ref l)) := by
    rw [c.len, List.getElem?_append_right (Nat.le_refl _)]
    simp
  have inv : ∀ {i : Nat} {x : Option V}, i < r.length → (σ ++ [some (V.ref l)])[i]? = some x → σ[i]? = some x := fun h e => by
    rwa [List.getElem?_append_left (by rw [← c.len]; exact h)] at e
  refine ⟨⟨c.sub, fun a h => h.elim (c.off a) fun h => (hF a h).1, fun a h => h.elim (c.liv a) fun h => ownR_some o a h, by simp [c.len], fun i b d e => ?_, fun i b ct' e => ?_, fun i j b c1 b' c2 l1 l2 F1 F2 ne e1 e2 s1 s2 o1 o2 => ?_⟩, fun i j k e b rows l1 as e1 s1 h1 => ?_⟩
  · rcases get_snoc e with ⟨hi, e⟩ | ⟨_, e⟩
    · obtain ⟨v, h1, h2⟩ := c.frz i b d e
      exact ⟨v, sg hi h1, h2⟩
    · cases e
  · rcases get_snoc e with ⟨hi, e⟩ | ⟨rfl, e'⟩
    · obtain ⟨l1, F1, h1, h2, h3⟩ := c.own i b ct' e
      exact ⟨l1, F1, sg hi h1, h2, fun a ha => .inl (h3 a ha)⟩
    · cases e'
      exact ⟨l, F, sl, o, fun a ha => .inr ha⟩
  · rcases get_snoc e1 with ⟨hi, e1⟩ | ⟨rfl, e1'⟩
    · rcases get_snoc e2 with ⟨hj, e2⟩ | ⟨rfl, e2'⟩
      · exact c.sep i j b c1 b' c2 l1 l2 F1 F2 ne e1 e2 (inv hi s1) (inv hj s2) o1 o2
      · cases e2'
        rw [sl] at s2; cases s2
        rw [ownR_uniq o o2 fun _ _ => rfl]
        obtain ⟨l3, F3, g1, g2, g3⟩ := c.own i b c1 e1
        rw [inv hi s1] at g1; cases g1
        rw [ownR_uniq g2 o1 fun _ _ => rfl]
        exact fun a ha hb => (hF a hb).2 (g3 a ha)
    · cases e1'
      rw [sl] at s1; cases s1
      rw [ownR_uniq o o1 fun _ _ => rfl]
      rcases get_snoc e2 with ⟨hj, e2⟩ | ⟨rfl, _⟩
      · obtain ⟨l3, F3, g1, g2, g3⟩ := c.own j b' c2 e2
        rw [inv hj s2] at g1; cases g1
        rw [ownR_uniq g2 o2 fun _ _ => rfl]
        exact fun a ha hb => (hF a ha).2 (g3 a hb)
      · exact absurd rfl ne
  · rcases get_snoc e with ⟨hi, e⟩ | ⟨_, e⟩
    · rcases get_snoc e1 with ⟨hj, e1⟩ | ⟨rfl, _⟩
      · obtain ⟨a, h2, h3⟩ := c.al i j k e b rows l1 as e1 (inv hj s1) h1
        exact ⟨a, h2, sg hi h3⟩
      · exact absurd e (noAl_of hn)
    · cases e
end
section
variable {X : Cx} {W : WX}
end
end DL
end

section
namespace DL
open PySem
end DL
end

section
namespace DL
open PySem PySem.Spec PySem.Calls PyProof.Rows L2
section
variable {K : PySem.W.Frag} {B H : Hp} {σ : L2.St} {r : Ro} {O : Addr → Prop}
end
section
variable {X : Cx} {W : WX}
end
end DL
end

section
namespace DL
open PySem
end DL
end

section
namespace DL
open PySem PySem.Spec PySem.Calls PyProof.Rows L2
section
variable {X : Cx} {W : WX}
end
end DL
end

section
namespace DL
open PySem
end DL
end

section
namespace DL
open PySem PySem.Spec PySem.Calls PyProof.Rows L2
section
variable {K : PySem.W.Frag} {B B' H H' : Hp} {σ : L2.St} {r : Ro} {O : Addr → Prop}
end
section
variable {X : Cx} {W : WX}
end
end DL
end

section
namespace DL
open PySem
end DL
end

section
namespace DL
open PySem PySem.Spec PySem.Calls PyProof.Rows L2
end DL
end

section
namespace DL
open PySem
end DL
end

section
namespace DL
open PySem PySem.Spec PySem.Calls PyProof.Rows L2
theorem srt_uniq {ks ys : List Int} (p : ys.Perm ks) (h : ys.Pairwise (· ≤ ·)) : ys = ks.mergeSort fun a b => decide (a ≤ b) := by
  refine List.Perm.eq_of_pairwise (le := fun a b : Int => decide (a ≤ b) = true) (fun a b _ _ h1 h2 => by simp at h1 h2; omega) (h.imp fun h => by simpa using h) ?_ (p.trans (List.mergeSort_perm ..).symm)
  exact List.pairwise_mergeSort (fun a b c h1 h2 => by simp at *; omega) (fun a b => by simp; omega) ks
end DL
end

section
namespace DL
open PySem
end DL
end

section
namespace DL
open PySem PySem.Spec PySem.Calls PyProof.Rows L2
section
variable {K : PySem.W.Frag} {B H : Hp} {σ : L2.St} {r : Ro} {O : Addr → Prop}
theorem Con.put (c : Con K B H σ r O) {j : Nat} {b : Bool} {ct : Ct} {l : Addr} {F : List Addr} (hs : σ[j]? = some (some (V.ref l))) (o : OwnR K B H ct l F) (hF : ∀ a ∈ F, B a = none)
    (sep : ∀ (i : Nat) b' c' l' F', i ≠ j → r[i]? = some (Sl.own b' c') → σ[i]? = some (some (V.ref l')) → OwnR K B H c' l' F' → ∀ a ∈ F, a ∉ F') (hn : noAl r j = true) :
    Con K B H σ (r.set j (.own b ct)) (fun a => O a ∨ a ∈ F) :=
  (c.grow fun a ha => ⟨hF a ha, ownR_some o a ha⟩).replace (i := j) (x := .own b ct) rfl (fun _ _ => rfl) ⟨l, F, hs, o, fun a ha => .inr ha, sep⟩ fun _ _ _ => hn
end
section
variable {X : Cx} {W : WX}
end
end DL
end

section
namespace DL
open PySem
def fIndexO (i : Nat) (b : AV) : M RV := fun r => match (listAt r i).bind intsD, (look2 r b).bind Rs.data with
  | some ns, some (.int y) => (ns.findIdx? (· == y)).map fun k => (.ok (.val (.int (k : Nat))), r)
  | _, _ => none
def mIndexO (i : Nat) (me : M AV) : M RV := fun r => match listAt r i with
  | none => none
  | some _ => me.bind (fIndexO i) r
end DL
end

section
namespace DL
open PySem PySem.Spec PySem.Calls PyProof.Rows L2
section
variable {X : Cx} {W : WX}
theorem de_indexO {o e : Expr} {apos cpos : Pos} {i : Nat} {me : M AV} (ho : PE X o (tVar i)) (he : DO X W e me)
    (hbase : attributeBase o "index" X.env (eval o X.env) = eval o X.env := by rfl)
    (hfew : ((backTo cpos (starEach [e] X.env)).all (fun x => !x.1) && (backToKw cpos (keywordEach [] X.env)).all (fun x => x.1.isSome)
      && decide ([e].length + ([] : List Keyword).length + (if ([] : List Keyword).isEmpty then 0 else 1) < 30)) = true := by rfl)
    (hline : (apos.endLine == cpos.line) = true := by rfl) (hs : starEach [e] X.env = (false, eval e X.env) :: starEach [] X.env := by rfl) (hplain : (backTo cpos (starEach [] X.env)).any (·.1) = false := by rfl) :
    DE X W (.Call (.Attribute o "index" apos) [e] [] cpos) (mIndexO i me) :=
  pe_weak (pe_bm PySem.F.plainAttrs_list PySem.F.slot_list_index PySem.F.type_list_index mt_index ho (da_cons he da_nil hs) hbase hfew hline hs hplain) fun σ H Q ⟨B, r, O, c, o, r', e, p⟩ => by
  unfold mIndexO at e
  split at e
  · cases e
  · rename_i ds q
    obtain ⟨l, ys, h1, h2, h3, h4⟩ := c.mut q
    refine ⟨.ref l, h1, .inl ⟨rfl, ys, .of h2⟩, ?_⟩
    have h5 : At (Cx.g X) W (me.bind (fIndexO i)) (rV (Cx.g X)) B r O σ H Q := ⟨c, o, r', e, p⟩
    rw [← oL_one me (fIndexO i) (M.of none)] at h5
    refine tG.of ((h5.bind later_rV (R := rL (Cx.g X))).mono ?_)
    rintro vs H2 ⟨bs, B2, r2, O2, s2, x2, h6⟩
    split at h6
    · rename_i b
      obtain ⟨c2, o2, r3, e2, p2⟩ := h6
      unfold fIndexO at e2
      split at e2
      · rename_i ns y q1 q2
        cases qk : ns.findIdx? (· == y) with
        | none => rw [qk] at e2; cases e2
        | some k =>
          rw [qk] at e2
          cases e2
          cases x2 with
          | cons xb t =>
            cases t
            obtain ⟨rs, q3, q4⟩ := Option.bind_eq_some_iff.mp q2
            have hy := rs_int (c2.look2_ q3 xb) q4
            subst hy
            obtain ⟨ds2, q5, q6⟩ := Option.bind_eq_some_iff.mp q1
            obtain ⟨l2, ys2, g1, g2, g3, g4⟩ := c2.mut q5
            rw [h1] at g1; cases g1
            have hns := ints_dq q6 g3
            subst hns
            obtain ⟨f1, f2⟩ := find_facts qk
            refine ⟨l, _, .int y, k, .int y, rfl, rfl, .of g2, rfl, flat_ints ns, by rw [List.getElem?_map, f1]; rfl, by show (y == y) = true; simp, fun m z' hm hz => ?_, p2 B2 H2 O2 _ .refl c2 .refl (.int _)⟩
            rw [List.getElem?_map] at hz
            cases qz : ns[m]? with
            | none => rw [qz] at hz; cases hz
            | some w => rw [qz] at hz; cases hz; exact f2 m w hm qz
      · cases e2
    · exact h6.no.elim
end
end DL
end

section
namespace DL
open PySem
def sRaise (cls : String) : S := fun r => some (.exc ⟨cls, none⟩, r)
end DL
end

section
namespace DL
open PySem PySem.Spec PySem.Calls PyProof.Rows L2
section
variable {X : Cx} {W : WX}
/-- what the written part says of an own class of exceptions -/
structure ExK (K : PySem.W.Frag) (mg : Str → Option Value) (x : String) (C : Addr) : Prop where
  gC : mg (Str.ofString x) = some (.ref C)
  q : PySem.W.excIn K C [.type "ValueError", .type "Exception", .type "BaseException", .type "object"] "ValueError.__new__" = true
  kC : PySem.W.keepIn K (.ref C) = true
  b : PySem.W.subIn K (.ref C) (.type "BaseException") = some true
  t : PySem.W.typeIn K (.ref C) = some (.type "type")
theorem ds_raise {cls : String} {C : Addr} {m : Str} {j : Nat} {p p2 pos pos' : Pos} (hc : X.calm = true) (tk : L2N.Takes X W) (T : ExK X.K X.mg cls C) (hg : Gl X (Str.ofString cls)) (hdb : (Str.ofString cls == ("__debug__" : Str)) = false := by decide) :
    DS X W (.Raise (some (.Call (.Name (Str.ofString cls) p) [.Constant (.str m) j p2] [] pos)) none pos') (sRaise cls) :=
  ps_weak (L2N.ps_raise hc tk (L2N.pmk_own PySem.F.excBase_ValueError T.q T.gC T.kC (raises_own T.b T.t) hg hdb)) fun D σ H ⟨B, r, O, c, o, r', e, p⟩ => by
    cases e
    exact p B H O σ (.ref C) none .refl c .refl ⟨C, T.gC, rfl, rfl⟩
def DEx (X : Cx) (W : WX) (i : Nat) (a : Addr) (e : Expr) (m : M RV) : Prop := PE X e (fun σ H Q => σ[i]? = some (some (V.ref a)) ∧ tG (Cx.g X) W m (rV (Cx.g X)) σ H Q)
def DAx (X : Cx) (W : WX) (i : Nat) (a : Addr) (es : List Expr) (m : M (List AV)) : Prop := PA X es (fun σ H Q => σ[i]? = some (some (V.ref a)) ∧ tG (Cx.g X) W m (rL (Cx.g X)) σ H Q)
theorem dex_of {i : Nat} {a : Addr} {e : Expr} {m : M RV} (h : DE X W e m) : DEx X W i a e m := pe_weak h fun σ H Q h => h.2
theorem dax_nil {i : Nat} {a : Addr} : DAx X W i a [] (oL []) := pa_weak da_nil fun σ H Q h => h.2
theorem dax_cons {i : Nat} {a : Addr} {e : Expr} {es : List Expr} {m : M RV} {ms : List (M AV)} (h : DEx X W i a e m) (t : DAx X W i a es (oL ms)) (hs : starEach (e :: es) X.env = (false, eval e X.env) :: starEach es X.env := by rfl) : DAx X W i a (e :: es) (oL (oE m :: ms)) := pa_weak (pa_cons h t hs) fun σ H Q ⟨hi, B, r, O, h⟩ => by
  have h1 : At (Cx.g X) W (oE m) (rA (Cx.g X)) B r O σ H fun x H1 => ∃ a1 B1 r1 O1, Step B H O B1 H1 O1 ∧ AvR X.K B1 σ a1 x ∧ At (Cx.g X) W ((oL ms).bind fun as => M.ret (a1 :: as)) (rL (Cx.g X)) B1 r1 O1 σ H1 Q := h.bind later_rL (R := rA (Cx.g X))
  refine ⟨hi, ?_⟩
  -- the operand
  obtain ⟨c, o, r', e1, p⟩ := h1
  refine ⟨B, r, O, c, ?_⟩
  unfold oE M.bind at e1
  cases q : m r with
  | none => rw [q] at e1; cases e1
  | some z =>
    obtain ⟨o1, r1⟩ := z
    rw [q] at e1
    refine ⟨o1, r1, rfl, ?_⟩
    cases o1 with
    | exc x => cases e1; exact p
    | ok rv =>
      simp only [M.of] at e1
      cases qd : rv.data with
      | none => rw [qd] at e1; cases e1
      | some d =>
        rw [qd] at e1
        cases e1
        intro B1 H1 O1 v s1 c1 b1 x1
        obtain ⟨B2, s2, c2, dp, _⟩ := c1.frozen s1 x1 qd
        obtain ⟨a1, B3, r3, O3, s3, x3, h2⟩ := p B2 H1 O1 v s2 c2 b1 dp
        refine ⟨hi, tG.of ((h2.bind later_rL (R := rL (Cx.g X))).mono ?_)⟩
        rintro xs H2 ⟨as, B4, r4, O4, s4, x4, h3⟩
        exact h3.ret (Paired.cons (x3.same s4.sB) x4)
theorem dex_lst {i : Nat} {a : Addr} {es : List Expr} {pos : Pos} {ms : List (M AV)} (h : DAx X W i a es (oL ms)) : DEx X W i a (.List es pos) (mOp gLst ms) := pe_weak (pe_lst h) fun σ H Q ⟨hi, B, r, O, h⟩ => by
  refine ⟨hi, tG.of (h.ops.mono ?_)⟩
  rintro vs H1 ⟨B1, xs, z, sb, p, hg, q⟩
  unfold gLst at hg
  obtain ⟨ds, e1, e2⟩ := Option.bind_eq_some_iff.mp hg
  split at e2
  · rename_i hl
    cases e2
    have d := dataAll_of e1 p
    exact ⟨by rw [d.length, ← line_eq]; exact hl, alc_lst q d⟩
  · cases e2
end
end DL
end

section
namespace DL
open PySem PySem.Spec PySem.Calls PyProof.Rows L2
section
variable {X : Cx} {W : WX}
theorem kit_ref {K : PySem.W.Frag} {D T : Addr} {b : Bool} (hs : PySem.W.subIn K (.ref D) (.ref D) = some true) (hd : PySem.W.hasDictIn K T = true) (ht : PySem.W.typeIn K (.ref T) = some (.type "type")) (h : PySem.W.subIn K (.ref D) (.ref T) = some b) : PySem.W.kitOne K (.ref D) (.ref T) = some b := by
  unfold PySem.W.kitOne
  by_cases e : D = T
  · subst e
    rw [hs] at h
    cases h
    rw [if_pos (by simp)]
  · rw [if_neg (by simpa using e)]
    obtain ⟨cd, hc, _⟩ := PySem.W.any_some hd
    unfold PySem.W.kitCls
    simp only
    rw [hc, ht, if_pos (by rfl)]
    exact h
theorem kit_bty {K : PySem.W.Frag} {D : Addr} {T : String} {b : Bool} (hm : PySem.W.kitMeta T = true) (h : PySem.W.subIn K (.ref D) (.type T) = some b) : PySem.W.kitOne K (.ref D) (.type T) = some b := by
  unfold PySem.W.kitOne
  rw [if_neg (by simp)]
  unfold PySem.W.kitCls
  simp only
  rw [if_pos hm]
  exact h
end
end DL
end

section
namespace DL
open PySem
/-- n numbers from hi on, downwards -/
def rngD (hi : Int) (n : Nat) : List D := (List.range n).map fun k => .int (hi - (k : Nat))
/-- reversed(range(n)) -/
def gRevR : List Rs → Option (List D)
  | [.fz (.int n)] => if okR n then some (rngD ((n.toNat : Int) - 1) n.toNat) else none
  | _ => none
end DL
end

section
namespace DL
open PySem PySem.Spec PySem.Calls PyProof.Rows L2
section
variable {X : Cx} {W : WX}
theorem serves_down {lb : Bool} {K : PySem.W.Frag} {B0 : Hp} {hi : Int} {n : Nat} : Serves K lb (Itc hi (-1) n) B0 (rngD hi n) := by
  have hl : (rngD hi n).length = n := by simp [rngD]
  refine ⟨fun H s => by show n ≤ _; rw [hl]; exact Nat.le_refl _, fun i H h s => by rw [hl] at h; exact h, fun i H x H' e he s y B b1 b2 => ?_⟩
  obtain ⟨rfl, rfl⟩ := y
  have hi' : i < n := by
    rw [← hl]; exact (List.getElem?_eq_some_iff.mp he).1
  have : e = .int (hi + (i : Nat) * (-1)) := by
    simp only [rngD, List.getElem?_map, List.getElem?_range hi', Option.map_some, Option.some.injEq] at he
    rw [← he]
    congr 1
    omega
  subst this
  exact .inl ⟨rfl, .int _⟩
theorem di_revR {lb : Bool} {tg a : Expr} {p p2 pos pos2 : Pos} {ma : M AV} (hg : Gl X "reversed") (hm : X.mg "reversed" = none) (hg2 : Gl X "range") (hm2 : X.mg "range" = none) (ha : DO X W a ma)
    (na : starEach [a] X.env = (false, eval a X.env) :: starEach [] X.env := by rfl) (hs : starEach [.Call (.Name "range" p2) [a] [] pos2] X.env = (false, eval (.Call (.Name "range" p2) [a] [] pos2) X.env) :: starEach [] X.env := by rfl) :
    DI X W lb tg (.Call (.Name "reversed" p) [.Call (.Name "range" p2) [a] [] pos2] [] pos) (mOpL gRevR [ma]) :=
  pi_weak (pi_revR hg hm (prg_1 hg2 hm2 ha na) hs) fun σ H Q ⟨B, r, O, h⟩ => by
    have e0 : mOpL gRevR [ma] = ma.bind fun a => fun r => match looks2 r [a] with
      | none => none
      | some xs => (gRevR xs).map fun v => (.ok v, r) := by
      unfold mOpL oL oL
      exact bind_assoc ma (fun a => M.ret [a]) _
    rw [e0] at h
    refine tG.of ((h.bind later_rI (R := rA (Cx.g X))).mono ?_)
    rintro y H1 ⟨a1, B1, r1, O1, s1, x1, c, o, r', e, pp⟩
    simp only at e
    cases q1 : looks2 r1 [a1] with
    | none => rw [q1] at e; cases e
    | some xs =>
      rw [q1] at e
      simp only at e
      cases q2 : gRevR xs with
      | none => rw [q2] at e; cases e
      | some ds =>
        rw [q2] at e
        cases e
        have pr := c.looks2_ q1 (.cons x1 .nil)
        unfold gRevR at q2
        split at q2
        · rename_i n
          split at q2
          · rename_i hn
            cases q2
            cases pr with
            | cons p1 pr =>
              cases pr
              cases dp_int p1
              obtain ⟨h1, h2⟩ := okR_of hn
              refine ⟨n, rfl, by omega, by omega, h1, h2, ?_⟩
              have sv := serves_down (lb := lb) (K := X.K) (B0 := B1) (hi := (n.toNat : Int) - 1) (n := n.toNat)
              have e1 : (0 : Int) + (((n - 0).toNat : Nat) : Int) - 1 = (n.toNat : Int) - 1 := by rw [Int.sub_zero]; omega
              have e2 : (n - 0).toNat = n.toNat := by rw [Int.sub_zero]
              rw [e1, e2]
              exact pp B1 H1 O1 _ .refl c .refl sv
          · cases q2
        · cases q2
end
end DL
end

section
namespace DL
open PySem
def dvF (set : D → S) (as : List AV) : S := fun r => match looks2 r as with
  | some [.fz (.int i), .fz (.int j)] => if 0 < j ∧ i.natAbs.log2 < 3999 then set (.tuple [.int (i / j), .int (i % j)]) r else none
  | _ => none
def sDvm (ma mb : M AV) (set : D → S) : S := sEx (oL [ma, mb]) (dvF set)
end DL
end

section
namespace DL
open PySem PySem.Spec PySem.Calls PyProof.Rows L2
section
variable {X : Cx} {W : WX}
theorem bits_le {i : Int} (h : i.natAbs.log2 < 3999) : Builtin.Int.intBits i ≤ 4000 := by
  unfold Builtin.Int.intBits
  split <;> omega
theorem ds_dvm {tg a b : Expr} {p pos pos' : Pos} {ma mb : M AV} {ix : List Nat} {set : D → S} (hg : Gl X "divmod") (hm : X.mg "divmod" = none) (ha : DO X W a ma) (hb : DO X W b mb) (ht : DG X true tg ix set) (hso : ∀ d r o r', set d r = some (o, r') → o = .nx)
    (hv : bootBuiltins "divmod" = some (.builtin "divmod") := by decide +kernel)
    (hs1 : starEach [a, b] X.env = (false, eval a X.env) :: starEach [b] X.env := by rfl) (hs2 : starEach [b] X.env = (false, eval b X.env) :: starEach [] X.env := by rfl) (hpl : (backTo pos (starEach [b] X.env)).any (·.1) = false := by rfl)
    (hs : swapsWithSole [tg] (.Call (.Name "divmod" p) [a, b] [] pos) pos'.line X.env = pure false := by rfl) (hw : swappedStores [tg] (.Call (.Name "divmod" p) [a, b] [] pos) X.env = pure none := by rfl)
    (h1 : (assignEach [tg] X.env).map (·.2) = [assign tg X.env] := by rfl) : DS X W (.Assign [tg] (.Call (.Name "divmod" p) [a, b] [] pos) pos') (sDvm ma mb set) :=
  ps_weak (ps_asg (pe_callB call_divmodW hg hm hv (da_cons ha (da_cons hb da_nil hs2) hs1) (by decide) (by decide) hs1 hpl) ht hs hw h1) fun D σ H ⟨B, r, O, h⟩ => by
    refine tG.of (h.ex.mono ?_)
    rintro vs H1 ⟨as, B1, r1, O1, s1, b1, x1, c1, o, r', e1, pp⟩
    have x1 : Paired (AvR X.K B1 σ) as vs := x1
    unfold dvF at e1
    split at e1
    · rename_i i j hl
      split at e1
      · rename_i hc
        have pr := c1.looks2_ hl x1
        cases pr with
        | cons p1 pr =>
          cases pr with
          | cons p2 pr =>
            cases pr
            cases dp_int p1
            cases dp_int p2
            refine ⟨i, j, rfl, divp_ok hc.1 (Nat.le_trans (bits_le hc.2) (Nat.le_add_left _ _)), fun T hT => ?_⟩
            obtain ⟨c2, s2⟩ := c1.layF (o := .tup [.int (i / j), .int (i % j)]) hT
            have := hso _ _ _ _ e1
            subst this
            exact ⟨_, r1, O1, _, r', c2, .inr ⟨rfl, T, _, _, rfl, rfl, .inl (.inl upd_same), .cons (.int _) (.cons (.int _) .nil)⟩, e1, fun σ' c3 b3 _ _ => pp _ _ O1 σ' (s1.trans s2) c3 (b1.trans b3)⟩
      · cases e1
    · cases e1
end
end DL
end

section
namespace DL
open PySem
def gTupRev : List Rs → Option RV
  | [a] => match a.data with
    | some (.list ds) => if ds.length ≤ lineD then some (.val (.tuple ds.reverse)) else none
    | _ => none
  | _ => none
end DL
end

section
namespace DL
open PySem PySem.Spec PySem.Calls PyProof.Rows L2 RT
section
variable {X : Cx} {W : WX}
theorem fe_tupRev {e : Expr} {te : TE} {p p2 pos pos2 : Pos} (hc : X.calm = true) (hg : Gl X "tuple") (hm : X.mg "tuple" = none) (hg2 : Gl X "reversed") (hm2 : X.mg "reversed" = none) (he : PE X e te)
    (hs : starEach [e] X.env = (false, eval e X.env) :: starEach [] X.env := by rfl)
    (hs2 : starEach [.Call (.Name "reversed" p2) [e] [] pos2] X.env = (false, eval (.Call (.Name "reversed" p2) [e] [] pos2) X.env) :: starEach [] X.env := by rfl) :
    PE X (.Call (.Name "tuple" p) [.Call (.Name "reversed" p2) [e] [] pos2] [] pos) (fun σ H Q => te σ H fun v H1 => ∃ (a : Addr) (xs : List V), v = .ref a ∧ SqL X.K H1 a xs ∧ ∀ q o, H1 q = none → TP o → Q (.ref q) (upd H1 q (.frz o (.tup xs.reverse)))) := by
  refine ⟨fun pins s σ H Q I h => ?_⟩
  refine Call_ (ld_blt I hg hm boot_tuple (PyProof.Rows.callWith_type1 (args_cons (Call_ (ld_blt I hg2 hm2 PyProof.Rows.boot_reversed (PyProof.Rows.callWith_type1 (args_cons (thn (he.run pins s σ H _ I h) fun u s1 ⟨v, H1, I1, r1, q1⟩ => args_nil ?_) hs) hs rfl))) hs2) hs2 rfl))
  obtain ⟨a, xs, ev, hq, q⟩ := q1
  subst ev
  obtain rfl : u = Value.ref a := r1
  obtain ⟨its, rv, p', hz⟩ := I1.list hq
  refine call_reversed_list p'.isList (args_nil ?_)
  have k0 : ∀ b o, s1.heap.get? b = some o → (s1.heap.push (revObj a ((its.toArray.size : Int) - 1))).get? b = some o := fun b o e => Heap.get?_push_of_some _ e
  have I2 : Inv X pins σ H1 { s1 with heap := s1.heap.push (revObj a ((its.toArray.size : Int) - 1)) } := I1.kept (t' := s1.toks) k0
  obtain ⟨f0, f1, f2, f3, f4, f5⟩ := I1.fpOk (H' := H1) (b := s1.heap.objs.size) (Nat.le_refl _) (I1.hok.fresh (Nat.le_refl _))
  have hl := p'.isList
  obtain ⟨ol, hol, _⟩ := id hl
  have hne : a ≠ s1.heap.objs.size := Nat.ne_of_lt (Heap.lt_size hol)
  have hn : its.toArray.size ≤ sizeLine := by rw [List.size_toArray, ← rv.length]; exact hz
  refine call_tuple_rev (s := { s1 with heap := s1.heap.push (revObj a ((its.toArray.size : Int) - 1)) }) (I1.ok.hd hc) ⟨_, Heap.get?_push_size _ rfl, rfl, rfl⟩ (hl.push _) hne hn fun h' tk acc hk hi => ?_
  have I3 : Inv X pins σ H1 { s1 with heap := h', toks := tk } := I2.turned (t' := tk) (fun b o hb e => hk b o hb e) f0 f1 f3 f4 f5
  have L := Inv.layT (s := { s1 with heap := h', toks := tk }) (its := acc.toList) (t' := tk) I3 (fun b u e => e) rfl (vals_rev rv hi) (by rw [List.length_reverse]; exact hz)
  rw [Array.toArray_toList] at L
  exact ⟨.ref h'.objs.size, _, L, rfl, q _ _ (I3.hok.fresh (Nat.le_refl _)) ⟨rfl, rfl⟩⟩
theorem de_tupRev {e : Expr} {m : M AV} {p p2 pos pos2 : Pos} (hc : X.calm = true) (hg : Gl X "tuple") (hm : X.mg "tuple" = none) (hg2 : Gl X "reversed") (hm2 : X.mg "reversed" = none) (he : DO X W e m)
    (hs : starEach [e] X.env = (false, eval e X.env) :: starEach [] X.env := by rfl)
    (hs2 : starEach [.Call (.Name "reversed" p2) [e] [] pos2] X.env = (false, eval (.Call (.Name "reversed" p2) [e] [] pos2) X.env) :: starEach [] X.env := by rfl) :
    DE X W (.Call (.Name "tuple" p) [.Call (.Name "reversed" p2) [e] [] pos2] [] pos) (mOp gTupRev [m]) := pe_weak (fe_tupRev hc hg hm hg2 hm2 he hs hs2) fun σ H Q ⟨B, r, O, h⟩ => by
  rw [mOp_one] at h
  refine tG.of ((h.bind later_rV (R := rA (Cx.g X))).mono ?_)
  rintro y H1 ⟨a1, B1, r1, O1, s1, x1, h1⟩
  obtain ⟨xs, z, sb, pr, hg, q⟩ := h1.fin (Paired.cons x1 .nil)
  unfold gTupRev at hg
  split at hg
  · rename_i a
    cases pr with
    | cons p1 pr =>
      cases pr
      split at hg
      · rename_i ds ed
        split at hg
        · cases hg
          obtain ⟨l, ms, rfl, g1, g2⟩ := rs_list sb p1 ed
          exact ⟨l, ms, rfl, .of g1, fun t ob hq ht => alc_tup q g2.reverse t ob hq ht⟩
        · cases hg
      · cases hg
  · cases hg
end
end DL
end

section
namespace DL
open PySem
end DL
end

section
namespace DL
open PySem PySem.Spec PySem.Calls PyProof.Rows L2
section
variable {X : Cx}
end
end DL
end

section
namespace DL
open PySem
end DL
end

section
namespace DL
open PySem PySem.Spec PySem.Calls PyProof.Rows L2 RT
section
variable {X : Cx} {W : WX}
end
end DL
end

section
namespace DL
open PySem
end DL
namespace DL
open PySem
end DL
end

section
namespace DL
open PySem PySem.Spec PyProof.Rows L2
section
variable {X : Cx} {W : WX}
end
end DL
end

section
namespace DL
open PySem PySem.Spec PySem.Calls PyProof.Rows L2
section
variable {X : Cx} {W : WX}
end
end DL
end

section
namespace DL
open PySem
end DL
end

section
namespace DL
open PySem PySem.Spec PyProof.Rows L2
section
variable {K : PySem.W.Frag} {B H : Hp}
end
section
variable {X : Cx} {W : WX} {pins : List (Addr × Obj)} {σ : L2.St} {H : Hp} {s : Shared}
end
end DL
end

section
namespace DL
open PySem
end DL
end

section
namespace DL
open PySem PySem.Spec PyProof.Rows L2
section
variable {X : Cx} {W : WX}
end
end DL
end

section
namespace DL
open PySem
def fDisp (a : AV) (d : D) : M RV := fun r => match keyAt r a with
  | some k => some (.ok (.new (.dK [(k, d)])), r)
  | none => none
def mDisp1 (mk : M AV) (mv : M RV) : M RV := mk.bind fun a => (mFz mv).bind fun d => fDisp a d
end DL
end

section
namespace DL
open PySem PySem.Spec PyProof.Rows L2
section
variable {X : Cx} {W : WX}
theorem de_disp1 {k v : Expr} {pos : Pos} {mk : M AV} {mv : M RV} (hk : DO X W k mk) (hv : DE X W v mv) : DE X W (.Dict [some k] [v] pos) (mDisp1 mk mv) :=
  pe_weak (pe_disp (pps_cons hk hv pps_nil) rfl rfl (by simp) (by simp)) fun σ H Q ⟨B, r, O, c, o, r', e, pc⟩ => by
    intro p hp
    obtain ⟨bp, np, c1, s1⟩ := c.lay (o := .dK []) hp
    have hp1 : upd H p (.dK []) p = some (.dK []) := upd_same
    show tG _ _ _ _ _ _ _
    unfold mDisp1 M.bind at e
    cases qk : mk r with
    | none => rw [qk] at e; cases e
    | some z =>
      obtain ⟨ok, r1⟩ := z
      rw [qk] at e
      refine ⟨B, r, O, c1, ok, r1, qk, ?_⟩
      cases ok with
      | exc x =>
        cases e
        exact fun B' H' O' cl dx s c b y => pc B' H' O' cl dx (s1.trans s) c b y
      | ok a =>
        intro B2 H2 O2 y s2 c2 b2 x2
        simp only at e
        show tG _ _ _ _ _ _ _
        cases q2 : mFz mv r1 with
        | none => rw [q2] at e; cases e
        | some z =>
          obtain ⟨o2, r2⟩ := z
          rw [q2] at e
          refine tG.of (At.froz ⟨c2, o2, r2, q2, ?_⟩)
          cases o2 with
          | exc x =>
            cases e
            exact fun B' H' O' cl dx s c b y => pc B' H' O' cl dx ((s1.trans s2).trans s) c (b2.trans b) y
          | ok d =>
            intro B3 H3 O3 w s3 c3 b3 dp
            simp only at e
            unfold fDisp at e
            split at e
            · rename_i kk qkk
              cases e
              have hy := keyAt_of c3 qkk (x2.same s3.sB)
              have k2 := s2.keep p _ hp1 np
              have n2 : ¬ O2 p := fun q => (s2.nO p q).elim np fun z => by rw [hp1] at z; cases z
              have bb2 := s2.nB p (by rw [hp1]; simp) np bp
              have k3 := s3.keep p _ k2 n2
              have n3 : ¬ O3 p := fun q => (s3.nO p q).elim n2 fun z => by rw [k2] at z; cases z
              have bb3 := s3.nB p (by rw [k2]; simp) n2 bb2
              refine ⟨k3, [(kk, w)], by rw [hy]; rfl, by simp, ?_⟩
              show Q (V.ref p) (upd H3 p (.dK [(kk, w)]))
              have sub : Same B3 (upd H3 p (.dK [(kk, w)])) := fun b x q => by
                by_cases e : b = p
                · subst e; rw [bb3] at q; cases q
                · rw [upd_ne e]; exact c3.sub b x q
              have c4 := c3.mono (H' := upd H3 p (.dK [(kk, w)])) (Same.refl _) sub (fun b q => upd_ne (fun e => n3 (e ▸ q))) c3.off
              have S := (s1.trans s2).trans s3
              have st : Step B H O B3 (upd H3 p (.dK [(kk, w)])) O3 := by
                refine ⟨S.sB, fun b x hb nb => ?_, fun b hb => ?_, S.nB, S.nO⟩
                · rw [upd_ne (fun e => by rw [e, hp] at hb; cases hb)]; exact S.keep b x hb nb
                · rw [upd_ne (fun e => by rw [e, hp] at hb; exact hb rfl)]; exact S.live b hb
              exact pc B3 _ O3 (.ref p) st c4 (b2.trans b3) ⟨p, [p], rfl, ⟨rfl, _, upd_same, .cons ⟨rfl, dp⟩ .nil⟩, fun b hb => by rw [List.mem_singleton.mp hb]; exact ⟨hp, bb3, n3⟩⟩
            · cases e
end
end DL
end

section
namespace DL
open PySem
end DL
end

section
namespace DL
open PySem PySem.Spec PyProof.Rows L2
section
variable {X : Cx}
end
end DL
end

section
namespace DL
open PySem
end DL
namespace DL
open PySem
end DL
end

section
namespace DL
open PySem PySem.Spec PyProof.Rows L2
section
variable {X : Cx}
end
end DL
namespace DL
open PySem PySem.Spec PyProof.Rows L2
section
variable {X : Cx}
end
end DL
end

section
namespace DL
open PySem PySem.Spec PyProof.Rows L2
theorem cx_no {P : Program} {w : World} {H : Hp} {s s' : Shared} {e : Value} (h : L2N.CX P w [] H s (fun _ _ _ => False) e s') : False := by
  obtain ⟨_, _, _, _, _, _, _, _, _, _, _, _, z⟩ := h
  exact z
end DL
end

section
namespace DL
open PySem PySem.Spec PyProof.Rows L2
/-- what a def keeps at one around -/
def FnAt (P : Program) (w : World) (K : PySem.W.Frag) (mg : Str → Option Value) (base : Heap) (A : Around) (f : Addr) (fd : FuncData) (ps : List Str) (sp : Sp) : Prop :=
  ∀ (st : List Env) (s : Shared) (H : Hp) (as : Args) (us : List Value) (vs : List V) (Q : VK) (E : XK), Env0 P w K mg base A st s H → BindsTo s fd as (ps.zip us) → Vals vs us → sp vs H Q E →
    codeAny (model P w) A (.call (.ref f) as) (CR (L2N.CX P w) st P w H s Q E) s
end DL
end

section
namespace DL
open PySem
def mE0 : M RV := M.ret (.val (.dict []))
mutual
/-- tuples and empty dicts alone: no list inside -/
def layT : D → Bool
  | .none => true
  | .bool _ => true
  | .int _ => true
  | .str x => PyData.strOk x
  | .tuple ds => layTs ds
  | .dict [] => true
  | .dict (p :: r) => oneI (p :: r)
  | _ => false
def layTs : List D → Bool
  | [] => true
  | d :: ds => layT d && layTs ds
end
end DL
end

section
namespace DL
open PySem PySem.Spec PyProof.Rows L2
section
variable {X : Cx} {W : WX}
theorem de_e0 {pos : Pos} : DE X W (.Dict [] [] pos) mE0 := pe_weak pe_dnewK fun σ H Q ⟨B, r, O, c, o, r', e, p⟩ => by
  cases e
  intro q hq
  obtain ⟨B', s, c', l, F, e1, ⟨rfl, vs, g1, g2⟩, hF⟩ := c.alc (show Alc X.K B H (upd H q (.dK [])) (.new (.dK [])) (.ref q) from ⟨q, [], hq, rfl, .nil, rfl⟩)
  cases g2
  cases e1
  obtain ⟨n1, n2, n3⟩ := hF q (by simp)
  have c2 := c'.still g1 n2 n3
  exact p _ _ O _ ⟨s.sB.trans (same_new n2), s.keep, s.live, fun a q1 q2 q3 => by
    rw [upd_ne (show a ≠ q from fun e => q1 (by rw [e]; exact n1))]
    exact s.nB a q1 q2 q3, s.nO⟩ c2 .refl (.dic upd_same)
end
/-- what a def keeps where no text is being made -/
structure FnOkG (P : Program) (w : World) (K : PySem.W.Frag) (mg : Str → Option Value) (base : Heap) (k : Nat) (f : Addr) (fd : FuncData) (ps : List Str) (sp : Sp) : Prop where
  len : ∀ vs H Q E, sp vs H Q E → vs.length = ps.length
  run : ∀ A, Room k A → A.guards = some [] → FnAt P w K mg base A f fd ps sp
theorem FnOkG.mono {P : Program} {w : World} {K : PySem.W.Frag} {mg : Str → Option Value} {base : Heap} {j k : Nat} {f : Addr} {fd : FuncData} {ps : List Str} {sp : Sp} (F : FnOkG P w K mg base j f fd ps sp) (h : j ≤ k) : FnOkG P w K mg base k f fd ps sp :=
  ⟨F.len, fun A hr => F.run A (hr.mono h)⟩
section
variable {X : Cx} {W : WX}
end
end DL
end

section
namespace DL
open PySem
end DL
end

section
namespace DL
open PySem PySem.Spec PyProof.Rows L2
section
variable {P : Program} {w : World} {A : Around} {E : Value → Shared → Prop} {s : Shared}
end
section
variable {X : Cx} {W : WX}
end
end DL
end

section
namespace DL
open PySem
end DL
end

section
namespace DL
open PySem PySem.Spec PySem.Calls PyProof.Rows L2
section
variable {X : Cx}
end
end DL
end

section
namespace DL
open PySem
/-- str(x) of a whole number -/
def gStrI : List Rs → Option RV
  | [.fz (.int i)] => if i.natAbs.log2 < 1920 then some (.val (.str (Str.ofString (toString i)))) else none
  | _ => none
end DL
end

section
namespace DL
open PySem PySem.Spec PySem.Calls PyProof.Rows L2
section
variable {X : Cx} {W : WX}
theorem cd_strI : CallD X (.type "str") gStrI := by
  intro pins s σ H vs us Q I r ⟨B, as, z, sb, p, hg, q⟩
  unfold gStrI at hg
  split at hg
  · rename_i i
    split at hg
    · rename_i hl
      cases hg
      cases p with
      | cons p1 p =>
        cases p
        cases dp_int p1
        exact call_str_int pins s σ H _ us Q I r ⟨_, rfl, hl, alc_val q (.str _)⟩
    · cases hg
  · cases hg
end
end DL
end

section
namespace DL
open PySem
end DL
end

section
namespace DL
open PySem PySem.Spec PyProof.Rows L2
section
variable {X : Cx}
end
end DL
end

section
namespace DL
open PySem
end DL
end

section
namespace DL
open PySem PySem.Spec PyProof.Rows L2
section
variable {X : Cx} {W : WX}
end
end DL
end

section
namespace DL
open PySem
end DL
end

section
namespace DL
open PySem PySem.Spec PySem.Calls PyProof.Rows L2
section
variable {X : Cx} {W : WX}
def tX (X : Cx) (W : WX) (i : Nat) (a : Addr) (m : S) : TS := fun D σ H => σ[i]? = some (some (V.ref a)) ∧ tS (Cx.g X) W m D σ H
theorem dxx_of {i : Nat} {a : Addr} {sts : List Stmt} {m : S} (h : DSs X W sts m) : PSs X sts (tX X W i a m) := pss_weak h fun D σ H h => h.2
theorem dxx_set {i j : Nat} {a : Addr} {x : Str} {e : Expr} {pos pos' : Pos} {sts : List Stmt} {m : M RV} {m2 : S} (hN : X.N.Nodup) (hi : X.N[j]? = some x) (hx : Loc X.env.scope x) (he : DEx X W i a e m) (ht : PSs X sts (tX X W i a m2)) (hne : j ≠ i := by decide)
    (hs : swapsWith e (some (.Name x pos')) pos.line X.env = pure false := by rfl)
    (hf : X.fn x = true ∨ X.env.scope.names.lookup x = some .local := by first | exact .inl rfl | exact .inr rfl | assumption) : PSs X (.Assign [.Name x pos'] e pos :: sts) (tX X W i a (sSeq (sSet j m) m2)) :=
  pss_weak (pss_cons (ps_set hN hi hx he hs hf) ht) fun D σ H ⟨hi, B, r, O, h⟩ => by
    refine ⟨hi, tG.of (h.seq.ex.mono ?_)⟩
    rintro y H1 ⟨v, B1, r1, O1, s1, b1, x1, c1, o, r', e, p⟩
    obtain ⟨rfl, O2, c2, b2, h2⟩ := put_ok c1 e x1 s1.live
    exact ⟨by rw [List.getElem?_set_ne hne]; exact hi, p B1 H1 O2 _ (put_step s1 h2) c2 (b1.trans b2)⟩
theorem call_reads {n : Nat} {sem : Sem} {ms : List (M AV)} {σ : L2.St} {H : Hp} {Q : VK} (hn : ms.length = n) (h : tG (Cx.g X) W (mCall sem ms) (rV (Cx.g X)) σ H Q) :
    tCallS (spD X.K X.mg sem n) (fun σ => WE W σ) (tG (Cx.g X) W (oL ms) (rL (Cx.g X))) σ H Q := by
  obtain ⟨B, r, O, h⟩ := h
  have olen : ∀ (ms : List (M AV)) (r : Ro) as r', oL ms r = some (.ok as, r') → as.length = ms.length := by
    intro ms
    induction ms with
    | nil => intro r as r' e; cases e; rfl
    | cons m ms ih =>
      intro r as r' e
      unfold oL M.bind at e
      split at e
      · cases e
      · rename_i a r1 q
        simp only [M.bind] at e
        split at e
        · cases e
        · rename_i as2 r2 q2
          cases e
          rw [List.length_cons, ih _ _ _ q2, List.length_cons]
        · cases e
      · cases e
  obtain ⟨c0, o0, r0, e0, p0⟩ := h
  have hlen : ∀ as r1, oL ms r = some (.ok as, r1) → as.length = n := fun as r1 q => (olen ms r as r1 q).trans hn
  have h : At (Cx.g X) W (mCall sem ms) (rV (Cx.g X)) B r O σ H Q := ⟨c0, o0, r0, e0, p0⟩
  refine ⟨B, r, O, c0, ?_⟩
  unfold mCall M.bind at e0
  cases q : oL ms r with
  | none => rw [q] at e0; cases e0
  | some z =>
    obtain ⟨o1, r1⟩ := z
    rw [q] at e0
    refine ⟨o1, r1, rfl, ?_⟩
    cases o1 with
    | exc x => cases e0; exact p0
    | ok as =>
      intro B1 H1 O1 vs s1 c1 b1 x1
      simp only at e0
      cases q2 : looks r1 as with
      | none => rw [q2] at e0; cases e0
      | some xs =>
        rw [q2] at e0
        simp only at e0
        split at e0
        · rename_i nd
          cases q3 : sem xs with
          | none => rw [q3] at e0; cases e0
          | some z3 =>
            obtain ⟨o3, ys⟩ := z3
            rw [q3] at e0
            simp only at e0
            split at e0
            · rename_i hl
              cases e0
              have x1 : Paired (AvR X.K B1 σ) as vs := x1
              refine ⟨by rw [← x1.length]; exact hlen as r1 q, B1, lent X.K B1 H1 O1 xs vs, xs, call_in c1 q2 x1 nd.1, o0, ys, q3, hl, ?_⟩
              cases o0 with
              | ok rv =>
                intro B' H' O' v s2 c2 x2
                obtain ⟨O2, s3, c3, b3, ho⟩ := call_out c1 q2 x1 nd.1 nd.2 hl s2 c2
                refine p0 B' H' O2 v (s1.trans s3) c3 (b1.trans b3) (later_rV H H1 B' H' O2 σ rv v s1.live ?_)
                cases rv with
                | val d => exact x2
                | new ct =>
                  obtain ⟨l, F, e1, o, hF⟩ := x2
                  refine ⟨l, F, e1, o, fun a ha => ⟨(hF a ha).1, (hF a ha).2.1, fun z => ?_⟩⟩
                  rcases ho a z with z | z
                  · exact c1.liv a z (hF a ha).1
                  · exact (hF a ha).2.2 z
              | exc x =>
                intro B' H' O' c dx s2 c2 x2
                obtain ⟨O2, s3, c3, b3, ho⟩ := call_out c1 q2 x1 nd.1 nd.2 hl s2 c2
                exact p0 B' H' O2 c dx (s1.trans s3) c3 (b1.trans b3) x2
            · cases e0
        · cases e0
theorem oE_reads {m : M RV} {σ : L2.St} {H : Hp} {Q : VK} (h : tG (Cx.g X) W (oE m) (rA (Cx.g X)) σ H Q) : tG (Cx.g X) W m (rV (Cx.g X)) σ H Q := by
  obtain ⟨B, r, O, c, o, r', e, p⟩ := h
  refine ⟨B, r, O, c, ?_⟩
  unfold oE M.bind at e
  cases q : m r with
  | none => rw [q] at e; cases e
  | some z =>
    obtain ⟨o1, r1⟩ := z
    rw [q] at e
    refine ⟨o1, r1, rfl, ?_⟩
    cases o1 with
    | exc x => cases e; exact p
    | ok rv =>
      simp only [M.of] at e
      cases qd : rv.data with
      | none => rw [qd] at e; cases e
      | some d =>
        rw [qd] at e
        cases e
        intro B1 H1 O1 v s1 c1 b1 x1
        obtain ⟨B2, s2, c2, dp, _⟩ := c1.frozen s1 x1 qd
        exact p B2 H1 O1 v s2 c2 b1 dp
theorem dex_bin {i : Nat} {ad : Addr} {a b : Expr} {op : Operator} {pos : Pos} {g : List Rs → Option RV} {oa : M AV} {m : M RV} (ho : OpD X (binaryOp op) g) (ha : DO X W a oa) (hb : DEx X W i ad b m) : DEx X W i ad (.BinOp a op b pos) (mOp g [oa, oE m]) :=
  pe_weak (pe_op ho ha hb) fun σ H Q ⟨hi, B, r, O, h⟩ => by
    rw [mOp_two] at h
    refine tG.of ((h.bind later_rV (R := rA (Cx.g X))).mono ?_)
    rintro x H1 ⟨a, B1, r1, O1, s1, x1, h1⟩
    refine ⟨hi, oE_reads (tG.of ((h1.bind later_rV (R := rA (Cx.g X))).mono ?_))⟩
    rintro y H2 ⟨b, B2, r2, O2, s2, x2, h2⟩
    obtain ⟨xs, z, sb, p, hg, q⟩ := h2.fin (.cons (x1.same s2.sB) (.cons x2 .nil))
    cases p with
    | cons p1 p => cases p with
      | cons p2 p =>
        cases p
        exact ⟨B2, _, _, z, sb, p1, p2, hg, q⟩
end
end DL
end

section
set_option maxHeartbeats 2000000
namespace DL
open PySem PySem.Spec PySem.Calls PyProof.Rows L2
abbrev HotC := L2H.HotC
/-- the turning of a range's iterator where an exception is handled -/
structure TurnK (P : Program) (w : World) (K : PySem.W.Frag) (tg : Expr) (J : It) (it : Addr) (tn : Nat → Heap → Prop) : Prop where
  obj : ∀ i h, tn i h → ∃ o, h.get? it = some o ∧ ∀ v, o.data ≠ .cell v
  keep : ∀ i h h', tn i h → (∀ o, h.get? it = some o → h'.get? it = some o) → tn i h'
  item : ∀ (X : Cx), X.prog = P → X.w = w → X.K = K → ∀ (i : Nat) (pins : List (Addr × Obj)) (s : Shared) (σ : L2.St) (H : Hp) (E : Value → Shared → Prop), Inv X pins σ H s → FpOk X pins H it → tn i s.heap → J.go i H →
    wpAny (model P w) X.A (pyNext (.ref it)) (fun r s1 => ∃ u, r = some u ∧
      wpAny (model P w) X.A (letOwnedTupleGo tg (.ref it) u) (fun _ s2 => ∃ x H', Inv X pins σ H' s2 ∧ RelV x u ∧ J.yld i H x H' ∧ tn (i + 1) s2.heap ∧ H' it = none) E s1) E s
  done : ∀ (X : Cx), X.prog = P → X.w = w → X.K = K → ∀ (i : Nat) (pins : List (Addr × Obj)) (s : Shared) (σ : L2.St) (H : Hp) (E : Value → Shared → Prop) (x1 : Addr), HotX.HotAt X.A x1 s.heap → Inv X pins σ H s → FpOk X pins H it → tn i s.heap → J.stop i H →
    wpAny (model P w) X.A (pyNext (.ref it)) (fun r s1 => r = none ∧ Inv X pins σ H s1) E s
  self : ∀ (A : Around) (i : Nat) (s : Shared) (Q : Value → Shared → Prop) (E : Value → Shared → Prop), tn i s.heap → Q (.ref it) s → wpAny (model P w) A (pyIter (.ref it)) Q E s
def PIEK (X : Cx) (pins : List (Addr × Obj)) (σ : L2.St) (tg : Expr) (R : It → Hp → Prop) (itv : Value) (s2 : Shared) : Prop :=
  ∃ (it : Addr) (tn : Nat → Heap → Prop) (J : It) (H' : Hp), itv = .ref it ∧ Inv X pins σ H' s2 ∧ TurnK X.prog X.w X.K tg J it tn ∧ tn 0 s2.heap ∧ FpOk X pins H' it ∧ R J H'
structure PIK (X : Cx) (tg iter : Expr) (wi : TI) : Prop where
  run : ∀ (pins : List (Addr × Obj)) (s : Shared) (σ : L2.St) (H : Hp) (R : It → Hp → Prop), Inv X pins σ H s → wi σ H R →
    wpAny (model X.prog X.w) X.A (eval iter X.env) (fun v s1 => wpAny (model X.prog X.w) X.A (pyIter v) (PIEK X pins σ tg R) X.xe s1) X.xe s
section
variable {X : Cx} {tg : Expr}
theorem takesN0 {X : Cx} : L2N.Takes X (fun _ _ _ _ => False) := fun _ _ x => by
  obtain ⟨_, _, _, _, _, _, _, _, _, _, _, _, _, _, _, _, z⟩ := x
  exact z.elim
/-- the handled exception stands where a block is entered -/
def HotIn (X : Cx) (s : Shared) (H : Hp) (fp : List Addr) : Prop := ∃ p : Addr × Obj, L2H.Hot1 X.A p ∧ s.heap.get? p.1 = some p.2 ∧ H p.1 = none ∧ p.1 ∉ frs X.stack ∧ p.1 ∉ fp
theorem HotIn.at {X : Cx} {s s' : Shared} {H H' : Hp} {fp : List Addr} {scope : Scope} {ce : Env} {pins : List (Addr × Obj)} {σ : L2.St} (h : HotIn X s H fp) (I : Inv (X.blk s H scope ce fp) pins σ H' s') : ∃ x1, HotX.HotAt X.A x1 s'.heap := by
  obtain ⟨p, ⟨hh, v1, e1, c1⟩, h1, h2, h3, h4⟩ := h
  exact ⟨p.1, hh, p.2, v1, I.base.keep p.1 p.2 h1 h2 h3 h4, e1, c1⟩
theorem lc_coreK {pins : List (Addr × Obj)} {s : Shared} {σ : L2.St} {H : Hp} {Q : VK} {elt iter : Expr} {ifs : List Expr} {scope : Scope} {own : List (Str × Nat)} {pos pos' : Pos} {wi : TI} {g : TG} {tt : TT} {te : TE} {use : Option (Value → PySem.Sem Unit)} {Qf : Value → Shared → Prop}
    (hc : HotC X) (hN : X.N.Nodup) (I : Inv X pins σ H s) (hi : PIK X tg iter wi) (ok : BlkOk X.N X.env.scope scope own)
    (hg : ∀ (s : Shared) (H : Hp) (C : Addr) (cl : List (Str × Addr)) (fp : List Addr), HotIn X s H fp → PG (X.blk s H scope (compEnvC scope cl C X.env) fp) tg g) (ht : ∀ (s : Shared) (H : Hp) (C : Addr) (cl : List (Str × Addr)) (fp : List Addr), PTs (X.blk s H scope (compEnvC scope cl C X.env) fp) ifs tt)
    (he : ∀ (s : Shared) (H : Hp) (C : Addr) (cl : List (Str × Addr)) (fp : List Addr), PE (X.blk s H scope (compEnvC scope cl C X.env) fp) elt te) (hs : ∀ x, foldedSetIterable iter X.env x = pure x)
    (h : tLc wi g tt te (own.map (·.2)) σ H Q)
    (hRR : ∀ D C s' m H', Inv X pins σ H' s' → Q (.ref D) H' → s'.heap.Ns C m → FpOk X pins H' C → compPost (model X.prog X.w) X.A X.xe use Qf (.ref D) C (.ok .next) s') :
    wpAny (model X.prog X.w) X.A (comprehension (.ListComp elt [⟨tg, iter, ifs, 0⟩] scope pos) scope X.env pos' (newList []) false (eval iter X.env) use) Qf X.xe s := by
  have hfree : ∀ y ∈ scope.names, y.2 = .free → ∃ c, X.env.cells.lookup y.1 = some c := fun y hy e => (ok.free y hy e).elim (fun k => I.ok.has _ (.inl k)) fun k => I.ok.has _ (.inr k)
  refine wpAny_comprehension_free (use := use) rfl hs (closure_ok hfree) ok.kind (fun y hy e => by rw [ok.uniq y hy, e]) (thn (hi.run pins s σ H _ I h) fun xv s1 hx => thn hx fun itv s2 h2 => ?_)
  obtain ⟨it, tn, J, H2, e, I2, T, st2, f2, q⟩ := h2
  subst e
  refine wpAny_newObj_type (newEnv_comp ?_) (by show 0 ≤ sizeLine; decide)
  generalize hD : s2.heap.objs.size = D
  have hDn : H2 D = none := I2.hok.fresh (Nat.le_of_eq hD)
  obtain ⟨W, ⟨m0, w0⟩, turn⟩ := q D hDn
  generalize hs3 : ({ s2 with heap := s2.heap.push { cls := .type "list", data := .seq ([] : List Value).toArray } } : Shared) = s3
  have h3 : s3.heap = s2.heap.push { cls := .type "list", data := .seq ([] : List Value).toArray } := by rw [← hs3]
  have I3 : Inv X pins σ (upd H2 D (.lst [])) s3 := by
    rw [← hs3]
    refine I2.laid (t' := s2.toks) (fun b o e => Heap.get?_push_of_some _ e) (Nat.le_of_eq hD) ⟨Nat.zero_le _, [], 0, .nil, ?_⟩
    rw [← hD]
    exact Heap.get?_push_size _ rfl
  have hlt : it < s2.heap.objs.size := by
    obtain ⟨o, e, _⟩ := T.obj _ _ st2
    exact Heap.lt_size e
  have f3 : FpOk X pins (upd H2 D (.lst [])) it := ⟨by rw [upd_ne (by rw [← hD]; exact Nat.ne_of_lt hlt)]; exact f2.1, f2.2⟩
  have f3s : it < s3.heap.objs.size := by rw [h3, Heap.size_push]; exact Nat.lt_succ_of_lt hlt
  have f3L : ∀ b ∈ [it], FpOk X pins (upd H2 D (.lst [])) b ∧ b < s3.heap.objs.size := fun b hb => by
    rw [List.mem_singleton.mp hb]
    exact ⟨f3, f3s⟩
  have st3 : tn 0 s3.heap := T.keep _ _ _ st2 fun o e => by rw [h3]; exact Heap.get?_push_of_some _ e
  have I4 := block_start I3 ok hN f3L
  have hIn : HotIn X s3 (upd H2 D (.lst [])) [it] := by
    obtain ⟨p, h1, hp⟩ := hc
    have P := I3.pin p (List.mem_append_left _ hp)
    exact ⟨p, h1, P.1, P.2.1, fun hm => (List.mem_cons.mp (I3.stkSub p.1 hm)).elim P.2.2.1 P.2.2.2.1, fun hm => f3.2.2.2.2.2 p (List.mem_append_left _ hp) (List.mem_singleton.mp hm)⟩
  have pg := hg s3 (upd H2 D (.lst [])) s3.heap.objs.size (cellsFrom (s3.heap.objs.size + 1) scope.names (cloFrom X.env.cells scope.names [])) [it] hIn
  have pt := ht s3 (upd H2 D (.lst [])) s3.heap.objs.size (cellsFrom (s3.heap.objs.size + 1) scope.names (cloFrom X.env.cells scope.names [])) [it]
  have pe := he s3 (upd H2 D (.lst [])) s3.heap.objs.size (cellsFrom (s3.heap.objs.size + 1) scope.names (cloFrom X.env.cells scope.names [])) [it]
  show codeAny _ _ (.compStart (.ListComp elt [⟨tg, iter, ifs, 0⟩] scope pos) 0 (.ref it) (.ref D) (compEnvC scope (cellsFrom (s3.heap.objs.size + 1) scope.names (cloFrom X.env.cells scope.names [])) s3.heap.objs.size X.env)) (compPost (model X.prog X.w) X.A X.xe use Qf (.ref D) s3.heap.objs.size) { s3 with heap := pushCells (s3.heap.push { cls := .type "dict", data := .dict #[] }) scope.names }
  have nit : (upd H2 D (.lst [])) it = none := f3.1
  generalize hce : compEnvC scope (cellsFrom (s3.heap.objs.size + 1) scope.names (cloFrom X.env.cells scope.names [])) s3.heap.objs.size X.env = ce at I4 pg pt pe ⊢
  have cL : ce.locals = s3.heap.objs.size := by subst hce; rfl
  generalize hH3 : upd H2 D (.lst []) = H3 at I3 I4 pg pt pe w0 nit f3 f3L
  generalize hs4 : ({ s3 with heap := pushCells (s3.heap.push { cls := .type "dict", data := .dict #[] }) scope.names } : Shared) = s4 at I4 ⊢
  have st4 : tn 0 s4.heap := T.keep _ _ _ st3 fun o e => by rw [← hs4]; exact pushCells_keeps _ _ _ _ (Heap.get?_push_of_some _ e)
  have stat : ∀ {σ' : L2.St} {H' : Hp} {s' : Shared}, Inv (X.blk s3 H3 scope ce [it]) [] σ' H' s' → H' it = none → FpOk (X.blk s3 H3 scope ce [it]) [] H' it := fun {σ' H' s'} I' hn =>
    ⟨hn, (I'.ok.exf it (List.mem_singleton.mpr rfl)).1, I'.ok.exfs it (List.mem_singleton.mpr rfl), .inl (List.mem_singleton.mpr rfl), fun x c e => (I'.ok.exf it (List.mem_singleton.mpr rfl)).2 x c e, fun p hp => absurd (show p ∈ ([] : List (Addr × Obj)) ++ [] from hp) (by simp)⟩
  -- the handled exception stands as it was
  have hotB : ∀ {σ' : L2.St} {H' : Hp} {s' : Shared}, Inv (X.blk s3 H3 scope ce [it]) [] σ' H' s' → ∃ x1, HotX.HotAt X.A x1 s'.heap := fun {σ' H' s'} I' => by
    obtain ⟨p, ⟨hh, v1, e1, c1⟩, hp⟩ := hc
    have P := I3.pin p (List.mem_append_left _ hp)
    have nS : p.1 ∉ frs X.stack := fun hm => (List.mem_cons.mp (I3.stkSub p.1 hm)).elim P.2.2.1 P.2.2.2.1
    have nI : p.1 ∉ [it] := fun hm => f3.2.2.2.2.2 p (List.mem_append_left _ hp) (List.mem_singleton.mp hm)
    exact ⟨p.1, hh, p.2, v1, I'.base.keep p.1 p.2 P.1 P.2.1 nS nI, e1, c1⟩
  have loop : codeAny (model X.prog X.w) X.A (.compLoop (.ListComp elt [⟨tg, iter, ifs, 0⟩] scope pos) 0 (.ref it) (.ref D) ce) (compPost (model X.prog X.w) X.A X.xe use Qf (.ref D) s3.heap.objs.size) s4 := by
    refine compLoop_any (fun n s' => ∃ i H', Inv (X.blk s3 H3 scope ce [it]) [] (wipe σ (own.map (·.2))) H' s' ∧ tn i s'.heap ∧ H' it = none ∧ W i n H') ?_ m0 ⟨0, H3, I4, st4, nit, w0⟩
    rintro n s5 ⟨i, H5, I5, st5, n5, w5⟩
    rcases turn i n H5 w5 with ⟨stop, qq⟩ | ⟨go, Nx, hNx, step⟩
    · obtain ⟨x1, hot⟩ := hotB I5
      refine thnF (T.done (X.blk s3 H3 scope ce [it]) rfl rfl rfl i [] s5 _ H5 (fun _ _ => False) x1 hot I5 (stat I5 n5) st5 stop) fun r s6 ⟨hr, I6⟩ => ?_
      subst hr
      have I7 : Inv X pins σ H5 s6 := I3.call' (ch := [it]) I6.os I6.base I6.hok I6.bare fun b hb => by
        rw [List.mem_singleton.mp hb]
        exact ⟨f3.2.2.2.1, f3.2.1, f3.2.2.2.2.1, f3.2.2.2.2.2⟩
      have nC : H5 s3.heap.objs.size = none := by
        rw [← cL]
        exact I6.free
      obtain ⟨m, hn, _⟩ := I6.loc
      have hn : s6.heap.Ns ce.locals m := hn
      rw [cL] at hn
      exact hRR D s3.heap.objs.size s6 m H5 I7 qq hn (I3.fpOk (Nat.le_refl _) nC)
    · refine thnF (T.item (X.blk s3 H3 scope ce [it]) rfl rfl rfl i [] s5 _ H5 (fun _ _ => False) I5 (stat I5 n5) st5 go) fun r s6 ⟨u, hr, h6⟩ => ?_
      subst hr
      refine thnF h6 fun _ s7 ⟨x, H7, I7, r7, y7, st7, n7⟩ => ?_
      have I7' := I7.pinned (fp := [it]) (fun b hb => by rw [List.mem_singleton.mp hb]; exact stat I7 n7) (fun b hb => by rw [List.mem_singleton.mp hb]; exact T.obj _ _ st7)
      refine thnF (pg.run _ s7 _ H7 x u _ I7' r7 (step x H7 y7)) fun _ s8 ⟨σ8, H8, I8, hw8, q8⟩ => ?_
      refine thnF (pt.run _ s8 σ8 H8 _ I8 q8) fun b s9 ⟨H9, I9, q9⟩ => ?_
      have fin : ∀ {s' : Shared} {H' : Hp}, Inv (X.blk s3 H3 scope ce [it]) ([] ++ pinsAt [it] s7.heap) σ8 H' s' → Nx H' → ∃ m, m < n ∧ ∃ i H', Inv (X.blk s3 H3 scope ce [it]) [] (wipe σ (own.map (·.2))) H' s' ∧ tn i s'.heap ∧ H' it = none ∧ W i m H' := fun {s' H'} I' nx => by
        obtain ⟨m', hm, w'⟩ := hNx H' nx
        have pin' : ∀ o, s7.heap.get? it = some o → s'.heap.get? it = some o ∧ H' it = none := fun o e =>
          let z := I'.pin (it, o) (List.mem_append_right _ (List.mem_append_right _ (mem_pinsAt (List.mem_singleton.mpr rfl) e)))
          ⟨z.1, z.2.1⟩
        have hl : (wipe σ (own.map (·.2))).length = σ8.length := by rw [← hw8, wipe_length]
        obtain ⟨o, eo, _⟩ := T.obj _ _ st7
        refine ⟨m', hm, i + 1, H', (I'.unpinned (pins := [])).weak hl (fun j v e => ?_), T.keep _ _ _ st7 fun o e => (pin' o e).1, (pin' o eo).2, w'⟩
        rw [← hw8] at e
        exact (wipe_some e).1
      cases b with
      | false =>
        simp only [Bool.false_eq_true, if_false] at q9 ⊢
        exact fin I9 q9
      | true =>
        simp only [if_true] at q9 ⊢
        refine thnF (pe.run _ s9 σ8 H9 _ I9 q9) fun z s10 ⟨yv, H10, I10, r10, acc, hD10, hz10, nx⟩ => ?_
        exact app_ok (X := X.blk s3 H3 scope ce [it]) I10 hD10 hz10 r10 fun s11 I11 => fin I11 nx
  exact codeAny_compStart_list loop (T.self X.A 0 _ _ _ st4 loop)
end
section
variable {X : Cx} {W : WX}
def DIK (X : Cx) (W : WX) (lo : Bool) (tg iter : Expr) (m : M (List D)) : Prop := PIK X tg iter (tG (Cx.g X) W m (rI (Cx.g X) lo))
theorem pik_weak {tg e : Expr} {t t' : TI} (h : PIK X tg e t) (w : ∀ σ H Q, t' σ H Q → t σ H Q) : PIK X tg e t' := ⟨fun pins s σ H Q I q => h.run pins s σ H Q I (w σ H Q q)⟩
end
end DL
end

section
namespace DL
open PySem
def mDii (i j : Int) : M RV := M.ret (.val (.dict [(.int i, .int j)]))
end DL
end

section
namespace DL
open PySem PySem.Spec PySem.Calls PyProof.Rows L2
section
variable {X : Cx} {W : WX}
theorem de_dii {i j : Int} {k v : Expr} {pos : Pos} (hk : DO X W k (oE (mC (.int i)))) (hv : DE X W v (mC (.int j))) : DE X W (.Dict [some k] [v] pos) (mDii i j) :=
  pe_weak (de_disp1 hk hv) fun σ H Q ⟨B, r, O, c, o, r', e, p⟩ => by
    cases e
    refine ⟨B, r, O, c, .ok (.new (.dK [(.inl i, .int j)])), r, rfl, fun B1 H1 O1 v s1 c1 b1 x1 => ?_⟩
    obtain ⟨l, F, e1, ⟨rfl, vs, g1, g2⟩, hF⟩ := x1
    cases vs with
    | nil => cases g2
    | cons kv vs2 =>
      cases g2 with
      | cons rr rt =>
        cases rt
        obtain ⟨k2, u⟩ := kv
        obtain ⟨rfl, hu⟩ := rr
        cases dp_int hu
        subst e1
        obtain ⟨n1, n2, n3⟩ := hF l (by simp)
        have c2 := c1.still g1 n2 n3
        exact p _ _ O1 _ ⟨s1.sB.trans (same_new n2), s1.keep, s1.live, fun a q1 q2 q3 => by
          rw [upd_ne (show a ≠ l from fun e => q1 (by rw [e]; exact n1))]
          exact s1.nB a q1 q2 q3, s1.nO⟩ c2 b1 (.dii upd_same)
end
end DL
end

section
namespace DL
open PySem
def rowL : D → Option (List D)
  | .list xs => some xs
  | _ => none
def mRowL (m : M RV) : M (List D) := (mFz m).bind fun d => M.of (rowL d)
end DL
end

section
set_option maxHeartbeats 2000000
namespace DL
open PySem PySem.Spec PySem.Calls PyProof.Rows L2
section
variable {prog : Program} {w : World} {A : Around} {E : Value → Shared → Prop} {s : Shared}
theorem pyNext_list_end_hot {it l x1 : Addr} {i : Nat} {items} {Q : Option Value → Shared → Prop} (hot : HotX.HotAt A x1 s.heap) (hit : s.heap.IsListIter it l i) (hl : s.heap.IsList l items) (hx : items[i]? = none)
    (hQ : ∀ h', Heap.ExtBut it s.heap h' → Q none { s with heap := h' }) : wpAny (model prog w) A (pyNext (.ref it)) Q E s := by
  obtain ⟨o, ho, hc, hd⟩ := id hit
  obtain ⟨ol, hol, _, nl, hdl⟩ := hl
  obtain ⟨hh, o1, vs1, h1, d1, c1⟩ := hot
  have n1 : it ≠ x1 := fun z => by
    rw [← z, ho] at h1
    cases h1
    rw [hd] at d1
    cases d1
    simp at c1
  unfold pyNext
  refine wpAny_bind (wpAny_attempt (wpAny_callSpecial?_slot (name := Str.ofString "__next__") hit.typeIs slot_listiter_next
    (wpAny_call_entry slot_listiter_next hit.typeIs entry_listiter_next ?_ (args_listiter_next _))))
  show wpAny _ _ (field (.ref it) 0 >>= _) _ _ s
  refine wpAny_bind (wpAny_field ho hd (x := .ref l) rfl ?_)
  show wpAny _ _ (if (Value.ref l == Value.none) = true then _ else _) _ _ s
  rw [if_neg (show ¬ ((Value.ref l == Value.none) = true) from Bool.false_ne_true)]
  show wpAny _ _ (field (.ref it) 1 >>= _) _ _ s
  refine wpAny_bind (wpAny_field ho hd (x := .int i 0) rfl ?_)
  show wpAny _ _ (seqItems? (.ref l) >>= _) _ _ s
  refine wpAny_bind (wpAny_seqItems hol hdl ?_)
  simp only [Int.toNat_natCast, hx]
  refine wpAny_bind (wpAny_rule (wpAny_bind (wpAny_setField ho hd (by simp) ?_)))
  show wpAny _ _ (newExc (.type "StopIteration") [] >>= _) _ _ _
  refine wpAny_bind ?_
  simp only [newExc, newTuple]
  refine wpAny_bind (wpAny_newObj_type ?_ (by size_fits))
  refine wpAny_bind (m := firstArgMember _ _) (wpAny_of_eq (a := Value.none) (by first | rfl | (simp only [firstArgMember]; rfl)) ?_)
  refine wpAny_newObj_type ?_ (by size_fits)
  have g1 : ∀ f, (s.heap.update it f).get? x1 = some o1 := fun f => (Heap.get?_update_other _ _ n1).trans h1
  refine HotX.raiseNew_hot ⟨hh, o1, vs1, Heap.get?_push_of_some _ (Heap.get?_push_of_some _ (g1 _)), d1, c1⟩ (Nat.ne_of_lt (Heap.lt_size (Heap.get?_push_of_some _ (g1 _)))) (Heap.get?_push_size _ rfl) rfl (by first | (simp; done) | (simp; omega) | (simp only [Array.size_append]; simp; omega)) ?_
  refine wpAny_bind (wpAny_isInstance (T := "StopIteration") (b := true) ⟨_, Heap.get?_update_self _ (Heap.get?_push_size _ rfl) rfl, rfl⟩ isSubtype_stop ?_)
  refine wpAny_pure (hQ _ ?_)
  intro b u hb e
  have e0 : ∀ f, (s.heap.update it f).get? b = some u := fun f => (Heap.get?_update_other _ _ (Ne.symm hb)).trans e
  rw [Heap.get?_update_other _ _ (Nat.ne_of_gt (Heap.lt_size (Heap.get?_push_of_some _ (e0 _))))]
  exact Heap.get?_push_of_some _ (Heap.get?_push_of_some _ (e0 _))
end
theorem turnK_list {P : Program} {w : World} {K : PySem.W.Frag} {tg : Expr} (a it : Addr) : TurnK P w K tg (Itl K a) it (fun i h => h.IsListIter it a i) where
  obj := fun i h st => by
    obtain ⟨o, e, c, d⟩ := st
    exact ⟨o, e, fun v z => by rw [d] at z; cases z⟩
  keep := fun i h h' st k => st.at fun o e => k o e
  item := by
    intro X hP hw hK i pins s σ H E I hf st hg
    subst hP hw hK
    obtain ⟨xs, x, hq, hx⟩ := hg
    obtain ⟨its, rv, p, hz⟩ := I.list hq
    obtain ⟨u, hu, ru⟩ := rv.get hx
    obtain ⟨f0, f1, f2, f3, f4, f5⟩ := hf
    refine wpAny_pyNext_list_item st p.isList (x := u) (by simpa using hu) fun h' st' sb => ?_
    have I1 : Inv X pins σ H { s with heap := h' } := I.turned (t' := s.toks) (fun b o hb e => (sb.2 b hb).trans e) f0 f1 f3 f4 f5
    obtain ⟨o, e, c, d⟩ := id st'
    exact ⟨u, rfl, go_of (s := { s with heap := h' }) e c d (by decide) ⟨x, H, I1, ru, ⟨rfl, fun ys hy => by rw [I.list_inj hy hq]; exact hx⟩, st', f0⟩⟩
  done := by
    intro X hP hw hK i pins s σ H E x1 hot I hf st hg
    subst hP hw hK
    obtain ⟨xs, hq, hx⟩ := hg
    obtain ⟨its, rv, p, hz⟩ := I.list hq
    obtain ⟨f0, f1, f2, f3, f4, f5⟩ := hf
    have hl := rv.length
    exact pyNext_list_end_hot hot st p.isList (by simp; omega) fun h' eb => ⟨rfl, I.turned (t' := s.toks) (fun b o hb e => eb b o hb e) f0 f1 f3 f4 f5⟩
  self := fun _ _ _ _ _ st h => wpAny_pyIter_listiter st h
section
variable {X : Cx} {W : WX} {tg : Expr}
theorem pik_list {l : Expr} {tl : TE} (hl : PE X l tl) : PIK X tg l (iList X.K tl) := by
  refine ⟨fun pins s σ H R I h => ?_⟩
  refine thn (hl.run pins s σ H _ I h) fun v s1 ⟨x, H1, I1, r1, q1⟩ => ?_
  obtain ⟨a, e, ⟨xs, hq⟩, q⟩ := q1
  subst e
  cases r1
  obtain ⟨its, rv, p, hz⟩ := I1.list hq
  refine wpAny_pyIter_list p.isList ?_
  exact ⟨s1.heap.objs.size, _, _, H1, rfl, I1.kept (t' := s1.toks) fun b o e => Heap.get?_push_of_some _ e, turnK_list a _, ⟨_, Heap.get?_push_size _ rfl, rfl, rfl⟩, I1.fpOk (Nat.le_refl _) (I1.hok.fresh (Nat.le_refl _)), q⟩
theorem dik_list {lo : Bool} {e : Expr} {m : M RV} (h : DE X W e m) : DIK X W lo tg e (mRowL m) := pik_weak (pik_list h) fun σ H R ⟨B, r, O, h⟩ => by
  refine tG.of (At.froz ((h.bind later_rI (R := rD (Cx.g X))).mono ?_))
  rintro v H1 ⟨d, B1, r1, O1, s1, dp, h1⟩
  have dp : Dq X.K B1 v d := dp
  obtain ⟨c, o, r', e, p⟩ := h1
  cases q : rowL d with
  | none => rw [q] at e; cases e
  | some ds =>
    rw [q] at e
    cases e
    cases d with
    | list xs =>
      cases q
      obtain ⟨a, xs, rfl, hs, ha⟩ := dp_list dp
      exact ⟨a, rfl, ⟨xs, .of (c.sub _ _ hs)⟩, p B1 H1 O1 _ .refl c .refl (serves_list (.of hs) ha)⟩
    | _ => cases q
end
end DL
end

section
set_option maxHeartbeats 2000000
namespace DL
open PySem PySem.Spec PySem.Calls PyProof.Rows L2
section
variable {Y : Cx} {W : WX}
/-- isinstance of the exception that a context pins -/
theorem call_isY {a D : Addr} {oe : Obj} (hp : (a, oe) ∈ Y.pn) (C : ExcC Y.K D) (hz : L2N.Zn (.ref D) none oe) (hf : ∃ vs, oe.data = .fields vs) : CallR Y (.builtin "isinstance") (rIsE Y.K D a) := by
  intro pins s σ H xs us Q I r h
  obtain ⟨c, cv, b, rfl, hcv, e, q⟩ := h
  cases r with
  | cons rx rr =>
    cases rr with
    | cons rt rr =>
      cases rr
      cases rx
      have ec := hcv _ rt
      subst ec
      obtain ⟨hget, _⟩ := I.pin (a, oe) (List.mem_append.mpr (.inl hp))
      obtain ⟨vs, hv⟩ := hf
      have J : PySem.W.InstAt s.heap a oe D none := by
        obtain ⟨oc, od, oda, osl⟩ := oe
        obtain ⟨h1, h2, _⟩ := hz
        dsimp only at h1 h2 hv
        subst h1 h2 hv
        exact ⟨hget, rfl, rfl, trivial⟩
      exact PySem.W.kia_one (PySem.W.handS_kitx_exc C.hg C.hk C.hs C.hd C.ha C.hn C.ht C.hm) I.kIn J e (fun z => nomatch z) fun tk => ⟨.bl b, H, I.kept (t' := tk) fun _ _ z => z, rfl, q⟩
theorem dex_isiY {a D : Addr} {oe : Obj} {i : Nat} {n T : Str} {c : V} {cv : Value} {b : Bool} {p p1 p2 pos : Pos} (hp : (a, oe) ∈ Y.pn) (C : ExcC Y.K D) (hz : L2N.Zn (.ref D) none oe) (hf : ∃ vs, oe.data = .fields vs)
    (hg : Gl Y "isinstance") (hm : Y.mg "isinstance" = none) (ho : PE Y (.Name n p1) (tVar i)) (hT : PE Y (.Name T p2) (tC c)) (hc : ClsV c cv) (hk : PySem.W.kitOne Y.K (.ref D) cv = some b)
    (h1 : starEach [.Name n p1, .Name T p2] Y.env = (false, eval (.Name n p1) Y.env) :: starEach [.Name T p2] Y.env := by rfl) (h2 : starEach [.Name T p2] Y.env = (false, eval (.Name T p2) Y.env) :: starEach [] Y.env := by rfl)
    (hpl : (backTo pos (starEach [.Name T p2] Y.env)).any (·.1) = false := by rfl) (hv : bootBuiltins "isinstance" = some (.builtin "isinstance") := by decide +kernel) :
    DEx Y W i a (.Call (.Name "isinstance" p) [.Name n p1, .Name T p2] [] pos) (mC (.bool b)) :=
  pe_weak (pe_callB (X := Y) (call_isY hp C hz hf) hg hm hv (pa_cons ho (pa_cons hT pa_nil h2) h1) (by decide) (by decide) h1 hpl) fun σ H Q ⟨hi, B, r, O, h⟩ =>
    ⟨.ref a, hi, c, cv, b, rfl, fun u hu => (hc.eq hu), hk, h.ret (Dq.bl b)⟩
end
/-- as def_read, of a def whose only argument is no data -/
theorem def_read0 {K : PySem.W.Frag} {mg : Str → Option Value} {N : List Str} {body : S} {Q : VK} {E : XK} {H : Hp} {a : Addr} (hn : 0 < N.length) (h : spD K mg (defSem 0 N.length body) 0 [] H Q E) :
    tS ⟨K, mg⟩ (fun c d _ H => E c d H) body { nx := fun _ H' => Q .non H', rt := Q } (start N [V.ref a]) H := by
  obtain ⟨hv, B, O, xs, c, o, ys, e, hy, p⟩ := h
  have hx : xs = [] := List.eq_nil_of_length_eq_zero (by have := c.len; simpa using this)
  subst hx
  have cp := c.pad (N := N) (Nat.zero_le _)
  have es : (start N ([] : List V)).set 0 (some (V.ref a)) = start N [V.ref a] := by
    unfold L2.start
    cases N with
    | nil => simp at hn
    | cons a N => simp [List.replicate_succ]
  have c2 := cp.replace (i := 0) (x := .non) (σ' := start N [V.ref a]) (by rw [← es, List.length_set]) (fun k hk => by rw [← es, List.getElem?_set_ne (Ne.symm hk)]) trivial (fun _ _ z => by cases z)
  have er : ∀ n : Nat, (([] : List Rs).map toSl ++ List.replicate n Sl.non).set 0 .non = List.replicate n .non := fun n => by simp
  rw [er] at c2
  simp only [List.length_nil, Nat.sub_zero] at c2
  unfold defSem at e
  rw [if_pos (show ([] : List Rs).length = 0 from rfl)] at e
  have hr0 : ([] : List Rs).map toSl ++ List.replicate (N.length - 0) Sl.non = List.replicate N.length .non := by simp
  rw [hr0] at e
  have cp0 := c2.shrink (O' := fun _ => False) (fun _ h => h.elim) fun i b ct l F e _ _ => by
    simp [List.getElem?_replicate] at e
  have up : ∀ {B' H' : Hp} {O' : Addr → Prop}, Step B H (fun _ => False) B' H' O' → Step B H O B' H' O' := fun s => ⟨s.sB, fun a o h _ => s.keep a o h (fun z => z), s.live, fun a h _ => s.nB a h (fun z => z), fun a h => (s.nO a h).elim (fun z => z.elim) .inr⟩
  have ex : ∀ {B' H' O' σ' r'}, Same B B' → Con K B' H' σ' r' O' → Bor (List.replicate N.length .non) (start N [V.ref a]) r' σ' → Con K B' H' (([] : List V).map some) (List.zipWith exitSl [] (outs [] 0 r')) O' := fun sB c' b =>
    exit_con (σ0 := start N [V.ref a]) (m := N.length) c sB (fun k hk => absurd hk (by simp)) c' (by simpa using b)
  refine ⟨B, _, _, cp0, ?_⟩
  cases q : body (List.replicate N.length .non) with
  | none => rw [q] at e; cases e
  | some z =>
    obtain ⟨so, r'⟩ := z
    rw [q] at e
    refine ⟨so, r', rfl, ?_⟩
    cases so with
    | nx =>
      cases e
      exact fun B' H' O' σ' s c' b => p B' H' O' .non (up s) (ex s.sB c' b) .non
    | ret v =>
      cases e
      exact fun B' H' O' σ' x s c' b rv => p B' H' O' x (up s) (ex s.sB c' b) rv
    | rets i =>
      simp only [handOn] at e
      split at e
      · rename_i c3 q2
        rw [if_pos (show allFz [] = true from rfl)] at e
        cases e
        intro B' H' O' σ' x s c' b hx
        obtain ⟨l, F, h1, h2, h3⟩ := c'.own i _ _ q2
        rw [hx] at h1
        cases h1
        have c4 := c'.release q2 hx h2
        have b2 : Bor (List.replicate N.length .non) (start N [V.ref a]) (r'.set i .non) σ' := b.trans (bor_set q2 fun z => by cases z)
        refine p B' H' (fun a => O' a ∧ a ∉ F) _ ⟨s.sB, fun a o h _ => s.keep a o h (fun z => z), s.live, fun a h _ => s.nB a h (fun z => z), fun a h => (s.nO a h.1).elim (fun z => z.elim) .inr⟩ (ex s.sB c4 b2) ⟨l, F, rfl, h2, fun a ha => ⟨?_, c'.off a (h3 a ha), fun z => z.2 ha⟩⟩
        exact (s.nO a (h3 a ha)).elim (fun z => z.elim) (fun z => z)
      · cases e
    | exc x =>
      cases e
      exact fun B' H' O' σ' k dx s c' b rx => p B' H' O' k dx (up s) (ex s.sB c' b) rx
    | brk => cases e
    | cnt => cases e
/-- a def that is handed the handled exception, of the class D -/
structure FnW (P : Program) (w : World) (K : PySem.W.Frag) (mg : Str → Option Value) (base : Heap) (k : Nat) (f : Addr) (fd : FuncData) (x : Str) (D : Addr) (sem : Sem) : Prop where
  run : ∀ (A : Around) (outer : List Env) (s : Shared) (H : Hp) (args : Args) (us : List Value) (Q : VK) (E : XK) (p : Addr × Obj), L2H.RoomH k A → L2H.Hot1 A p → L2H.PinOk outer H s p → L2N.Zn (.ref D) none p.2 → (∃ vs, p.2.data = .fields vs) → Env0 P w K mg base A outer s H → BindsTo s fd args ([x].zip us) →
    us = [.ref p.1] → spD K mg sem 0 [] H Q E → codeAny (model P w) A (.call (.ref f) args) (CR (L2N.CX P w) outer P w H s Q E) s
theorem fnw_of {P : Program} {w : World} {K : PySem.W.Frag} {mg : Str → Option Value} {base : Heap} {x qual : Str} {st : Stmt} {f D : Addr} {fd : FuncData} {y : Str} {N : List Str} {k : Nat} {body : S} (F : Fun K x qual st f fd) (S : FnScope N [y] (defScope st)) (hn : 0 < N.length)
    (hbody : ∀ (cdv : Value) (A : Around) (outer : List Env) (s : Shared) (H : Hp) (E : XK) (p : Addr × Obj), L2H.Hot1 A p → L2H.RoomH k (A.deeper (envOfC qual (defScope st) s.heap.objs.size f cdv)) → L2N.Zn (.ref D) none p.2 → (∃ vs, p.2.data = .fields vs) →
      PSs (L2H.cxH (L2N.CX P w) P w K mg base N qual (defScope st) f cdv A outer s H E p) (defBody st) (fun D σ H => σ[0]? = some (some (V.ref p.1)) ∧ tS ⟨K, mg⟩ (fun c d _ H => E c d H) body D σ H)) :
    FnW P w K mg base (k + 1) f fd y D (defSem 0 N.length body) := by
  obtain ⟨oc, od, kV, doc, pm, an, cdv, ct, osl, rfl, lk, hcd⟩ := F.ex
  refine ⟨fun A outer s H args us Q E p hr hot hpin hz hf e0 hb hus hsp => ?_⟩
  subst hus
  have KX : K.In s.heap := e0.mod.kin.keeps fun b o e => (e0.bs b o e).1
  have lim : s.heap.NoLimit := e0.mod.nolimit.keeps fun b o e => (e0.bs b o e).1
  have hkind : ∀ z ∈ [y].zip [Value.ref p.1], (defScope st).names.lookup z.1 = some .local ∨ ((defScope st).names.lookup z.1 = some .cell ∧ ((cellsFrom (s.heap.objs.size + 1) (defScope st).names []).lookup z.1).isSome = true) := fun ⟨n, v⟩ hy => by
    rcases S.par n (List.of_mem_zip hy).1 with q | q
    · exact .inl q
    · exact .inr ⟨q, PySem.W.cellsFrom_some _ _ _ (.inl q)⟩
  refine codeAny_call_function hr.depth (KX _ _ lk) rfl S.co S.gen rfl (PySem.W.codeRec_of KX hcd) (hb _ _ _ _ ?_)
  refine wpAny_newFunctionEnv_cells S.kind hkind fun env he s1 x => ?_
  subst he
  refine ⟨lim.keeps x.toInCall.keep, codeAny_func ?_⟩
  have ht := hbody cdv A outer s H E p hot (hr.deeper _) hz hf
  have I := L2H.inv_startH (CX := L2N.CX P w) (vs := [V.ref p.1]) (E := E) S hpin e0 rfl (.cons rfl .nil) x
  have h0 : (start N [V.ref p.1])[0]? = some (some (V.ref p.1)) := rfl
  have rd2 : tS ⟨K, mg⟩ (fun c d _ H => E c d H) body { nx := fun _ H' => Q .non H', rt := Q } (start N [V.ref p.1]) H := by
    exact def_read0 hn hsp
  refine wpAny_mono (ht.run [] s1 (start N [V.ref p.1]) H _ I ⟨h0, rd2⟩) (fun fl s' hs => ?_) fun e s' hs => hs
  have fin : ∀ {σ' : L2.St} {H' : Hp} {v : V} {u : Value}, Inv (L2H.cxH (L2N.CX P w) P w K mg base N qual (defScope st) f cdv A outer s H E p) [] σ' H' s' → RelV v u → Q v H' → CE outer P w H s Q u s' :=
    fun {σ' H' v u} J rv q => ⟨v, H', J.os, J.bare, J.base, J.hok, rv, q⟩
  cases fl with
  | ret u =>
    obtain ⟨v, σ', H', J, rv, q⟩ := hs
    exact fin J rv q
  | next =>
    obtain ⟨σ', H', J, q⟩ := hs
    exact fin (v := V.non) (u := Value.none) J rfl q
  | brk =>
    obtain ⟨_, _, _, q⟩ := hs
    exact False.elim q
  | cont =>
    obtain ⟨_, _, _, q⟩ := hs
    exact False.elim q
end DL
end

section
set_option maxHeartbeats 2000000
namespace DL
open PySem PySem.Spec PySem.Calls PyProof.Rows L2
section
variable {X : Cx} {W : WX}
theorem dex_wordC {a D f : Addr} {oe : Obj} {pn : List (Addr × Obj)} {i k : Nat} {fd : FuncData} {x y n : Str} {sem : Sem} {p p1 pos : Pos} (F : FnW X.prog X.w X.K X.mg X.base k f fd y D sem) (hr : Room k X.A) (hz : L2N.Zn (.ref D) none oe) (hf : ∃ vs, oe.data = .fields vs)
    (hg : Gl X x) (hm : X.mg x = some (.ref f)) (hk : PySem.W.keepIn X.K (.ref f) = true) (hb : Binds X.K fd [y] []) (ho : PE (X.suite a ((a, oe) :: pn)) (.Name n p1) (tVar i))
    (hdb : (x == ("__debug__" : Str)) = false := by decide) (he : starEach [.Name n p1] X.env = (false, eval (.Name n p1) X.env) :: starEach [] X.env := by rfl) (hpl : (backTo pos (starEach [] X.env)).any (·.1) = false := by rfl) :
    DEx (X.suite a ((a, oe) :: pn)) (fun _ _ _ _ => False) i a (.Call (.Name x p) [.Name n p1] [] pos) (mCall sem []) := by
  refine ⟨fun pins s σ H Q I h => ?_⟩
  obtain ⟨hi, h⟩ := h
  refine wpAny_Call_Name_kw (ld_glob (X := X.suite a ((a, oe) :: pn)) I hg hm ?_ hdb)
  have ha : PA (X.suite a ((a, oe) :: pn)) [.Name n p1] (tCons (tVar i) tNil) := pa_cons ho pa_nil he
  refine PySem.W.callWith_K (h₀ := X.base) I.ok.mod.kin hk (thn (ha.run pos pins s σ H (fun vs H1 => vs = [V.ref a] ∧ H1 = H) I ⟨.ref a, hi, rfl, rfl⟩) fun us s1 ⟨vs, H1, I1, r1, q1⟩ => ⟨I1.kIn, ?_⟩) he hpl
  obtain ⟨rfl, rfl⟩ := q1
  obtain rfl : us = [Value.ref a] := by
    cases r1 with
    | cons r2 r3 => cases r3; cases r2; rfl
  have hot : L2H.Hot1 (X.suite a ((a, oe) :: pn)).A (a, oe) := by
    obtain ⟨vs, hv⟩ := hf
    exact ⟨rfl, vs, hv, hz.2.2 vs hv⟩
  have P1 := I1.pin (a, oe) (List.mem_append_left _ List.mem_cons_self)
  have hpin : L2H.PinOk X.stack H1 s1 (a, oe) := ⟨P1.1, P1.2.1, fun hm => (List.mem_cons.mp (I1.stkSub a hm)).elim P1.2.2.1 P1.2.2.2.1, P1.2.2.2.2⟩
  have b := hb s1 [Value.ref a] I1.kIn rfl
  rw [List.append_nil] at b
  have hsp : spD X.K X.mg sem 0 [] H1 Q (fun _ _ _ => False) := by
    have z := call_reads (X := X.suite a ((a, oe) :: pn)) (n := 0) (sem := sem) (ms := []) rfl h
    obtain ⟨B, r, O, c, o, r', e, q⟩ := z
    cases e
    exact q B H1 O [] .refl c .refl .nil
  have env := I1.env0
  refine wpAny_call (codeAny_mono (F.run (X.suite a ((a, oe) :: pn)).A X.stack s1 H1 ⟨[.ref a], []⟩ [.ref a] Q (fun _ _ _ => False) (a, oe) ⟨hr.dp, hr.un⟩ hot hpin hz hf env b rfl hsp) fun r s' hq => ?_)
  cases r with
  | error e =>
    obtain ⟨_, _, _, _, _, _, _, _, _, _, _, _, z⟩ := hq
    exact z.elim
  | ok fl =>
    cases fl with
    | ret u => exact I1.after hq
    | next => exact False.elim hq
    | brk => exact False.elim hq
    | cont => exact False.elim hq
end
end DL
end

section
set_option maxHeartbeats 2000000
namespace DL
open PySem PySem.Spec PySem.Calls PyProof.Rows L2
open LamX (CodeO TabS Tabs ExtN TabB LamS lamEnv)
/-- the table at P, behind the making of a lambda -/
def NewT (H : Hp) (P : Addr) (q : Str) (ps : Array Value) (H1 : Hp) : Prop := H1 = H ∨ ∃ (more : Array Value) (c' : Addr), H c' = none ∧ TriplesOk (ps ++ more).toList ∧
  (∀ (pos : Pos) (cv : Value), codeAmong pos (ps ++ more).toList = some cv → codeAmong pos ps.toList = some cv ∨ cv = .ref c') ∧ H1 = upd (upd H P (.tbl (ps ++ more))) c' (CodeO c' q)
/-- the lambda is made: its code object is new, or found in the table at P; all else stays -/
theorem lam_make3 {X : Cx} {pins : List (Addr × Obj)} {σ : L2.St} {H : Hp} {s : Shared} {c P : Addr} {params : Arguments} {body : Expr} {scope : Scope} {pos : Pos} {E Q : Value → Shared → Prop} (I : Inv X pins σ H s) (TB : TabB X.base X.mg c P) (hcode : X.env.code = .ref c)
    {ps : Array Value} (hP : H P = some (.tbl ps)) (ht : TriplesOk ps.toList) (ha : ∀ (pos : Pos) (cv : Value), codeAmong pos ps.toList = some cv → ∃ c, cv = .ref c ∧ H c = some (CodeO c (X.env.qual ++ "<lambda>"))) (hdef : defaultsOf params X.env = ([], [])) (hfree : ∀ y ∈ scope.names, y.2 = .free → ∃ c, X.env.cells.lookup y.1 = some c)
    (h : ∀ (f c' : Addr) (pm ctv : Value) (H1 : Hp) (s' : Shared), Inv X pins σ H1 s' → NewT H P (X.env.qual ++ "<lambda>") ps H1 →
      s'.heap.get? f = some (PySem.W.kla_obj "<lambda>" (X.env.qual ++ "<lambda>") params body scope (cloFrom X.env.cells scope.names []) pm c' ctv) → H1 f = none → f ∉ frs X.stack → H1 c' = some (CodeO c' (X.env.qual ++ "<lambda>")) → Q (.ref f) s') :
    wpAny (model X.prog X.w) X.A (eval (.Lambda params body scope pos) X.env) Q E s := by
  have bP : s.heap.BuiltinsAt X.mg P := TB.bm.keeps I.bk
  have hP' : s.heap.get? P = some { cls := .none, data := .fields ps } := I.hok P _ hP
  have nofr : ∀ f, s.heap.objs.size ≤ f → f ∉ frs X.stack := fun f hf z => (List.mem_cons.mp (I.stkSub _ z)).elim (fun e => by
    have h1 := I.lt
    rw [← e] at h1
    exact absurd h1 (Nat.not_lt.mpr hf)) fun e => I.nofs hf e
  refine PySem.W.kla_eval hdef ?_
  cases hc : codeAmong pos ps.toList with
  | some cv =>
    obtain ⟨c', rfl, hco⟩ := ha pos cv hc
    refine PySem.W.kla_makeFunctionHit (mg := X.mg) (c := c) (P := P) (ps := ps) (closure_ok hfree) I.ok.glob (I.mod.glob.keeps I.bk) hcode (TB.code.keeps I.bk) hP' ht hc bP fun ctv h' tk hx hsz => ?_
    exact h h'.objs.size c' ((X.mg "__name__").getD .none) ctv H _ (I.kept (t' := tk) fun b o e => Heap.get?_push_of_some _ (hx b o e)) (.inl rfl) (Heap.get?_push_size _ rfl) (I.hok.fresh hsz) (nofr _ hsz) hco
  | none =>
    refine PySem.W.kla_makeFunction (mg := X.mg) (c := c) (P := P) (ps := ps) (closure_ok hfree) I.ok.glob (I.mod.glob.keeps I.bk) hcode (TB.code.keeps I.bk) hP' ht hc TB.gP bP fun c' ctv h' tk hx hge hlt hrec htb => ?_
    obtain ⟨c2, oc, vs, t, e2, hoc, hd, hv⟩ := hrec
    cases e2
    have hsz : s.heap.objs.size ≤ h'.objs.size := Nat.le_trans hge (Nat.le_of_lt hlt)
    have nC : H c' = none := I.hok.fresh hge
    have nP : P ≠ c' := ne_of_none hP nC
    have I1 := LamX.inv_table (t' := tk) (more := #[rawInt pos.line, rawInt pos.col, .ref c']) (h' := h'.push (PySem.W.kla_obj "<lambda>" (X.env.qual ++ "<lambda>") params body scope (cloFrom X.env.cells scope.names []) ((X.mg "__name__").getD .none) c' ctv)) I hP
      (fun b o hb e => Heap.get?_push_of_some _ (hx b o hb e)) (Heap.get?_push_of_some _ htb) hge ⟨oc, vs, t, Heap.get?_push_of_some _ hoc, hd, hv⟩
    have eL : (ps ++ #[rawInt pos.line, rawInt pos.col, .ref c']).toList = ps.toList ++ [rawInt pos.line, rawInt pos.col, .ref c'] := by simp
    refine h h'.objs.size c' ((X.mg "__name__").getD .none) ctv _ _ I1 (.inr ⟨_, c', nC, by rw [eL]; exact PySem.TriplesOk_snoc _ _ _ _ ht, fun p' cv hcv => ?_, rfl⟩) (Heap.get?_push_size _ rfl) ?_ (nofr _ hsz) upd_same
    · rw [eL] at hcv
      exact LamX.among_app _ ht hcv
    · rw [upd_ne (Nat.ne_of_gt hlt), upd_ne (Nat.ne_of_gt (Nat.lt_of_lt_of_le (Heap.lt_size hP') hsz))]
      exact I.hok.fresh hsz
/-- the context of the lambda's body -/
abbrev lamN (X : Cx) (A : Around) (outer : List Env) (s : Shared) (H : Hp) (E : XK) (scope : Scope) (f c' : Addr) : Cx :=
  { LamX.lamCx X A outer s H E scope f c' with
    xe := fun e s' => wpAny (model X.prog X.w) (A.deeper (lamEnv X scope s.heap.objs.size f c')) (leaving (lamEnv X scope s.heap.objs.size f c') e) (fun _ s'' => L2N.CX X.prog X.w outer H s E e s'') (fun e' s'' => L2N.CX X.prog X.w outer H s E e' s'') s' }
section
variable {X : Cx} {pins : List (Addr × Obj)} {σ : L2.St} {H HZ : Hp} {s s1 : Shared}
theorem lam_startN {A : Around} {outer : List Env} {E : XK} {scope : Scope} {f c' : Addr} {h₁ : Heap} {tk : Nat} (I : Inv X pins σ H s) (L : LamS X.env.scope scope) (e0 : Env0 X.prog X.w X.K X.mg X.base A outer s1 HZ) (hd : A.handled = none)
    (un : Un (frs X.stack) [] H HZ s.heap s1.heap) (hns : h₁.Ns s1.heap.objs.size fun y => ([] : List (Str × Value)).reverse.lookup y) (kp : ∀ b o, s1.heap.get? b = some o → h₁.get? b = some o) :
    Inv (lamN X A outer s1 HZ E scope f c') [] σ HZ { s1 with heap := h₁, toks := tk } :=
  Inv.wish (X := LamX.lamCx X A outer s1 HZ E scope f c') (LamX.lam_start2 I L e0 hd un hns kp) _
theorem pe_actN {CXg : CXT} {Eg : XK} {Ng : List Str} {qg : Str} {sg : Scope} {g f c' : Addr} {cdg pm ctv : Value} {params : Arguments} {body : Expr} {scope : Scope} {k i : Nat} {a : Str} {pn : List (Addr × Obj)} {xe : Value → Shared → Prop} {W : WX} {E : XK} {tb : TE} {p1 p2 : Pos}
    (I : Inv X pins σ H s) (L : LamS X.env.scope scope) (hf : s.heap.get? f = some (PySem.W.kla_obj "<lambda>" (X.env.qual ++ "<lambda>") params body scope (cloFrom X.env.cells scope.names []) pm c' ctv)) (hfn : H f = none) (hfr : f ∉ frs X.stack)
    (hbind : bindArgs (PySem.W.kla_fn "<lambda>" (X.env.qual ++ "<lambda>") params body scope (cloFrom X.env.cells scope.names []) pm (.ref c') ctv) ⟨[], []⟩ = pure [])
    (tk : L2N.Takes ((cxOf CXg X.prog X.w X.K X.mg X.base Ng qg sg g cdg X.A X.stack s H Eg).tr pn xe) W) (hW : ∀ cls d σ' H', E cls d H' → W cls d σ' H') (hr : Room (k + 1) (X.A.deeper (envOfC qg sg s.heap.objs.size g cdg)))
    (hbody : ∀ (A : Around) (outer : List Env) (s : Shared) (H : Hp), Room k (A.deeper (lamEnv X scope s.heap.objs.size f c')) → PE (lamN X A outer s H E scope f c') body tb)
    (hN : Ng[i]? = some a) (hv : Vis sg a) (hd : (a == ("__debug__" : Str)) = false := by decide) (hcd : (a == ("__classdict__" : Str)) = false := by decide) :
    PE ((cxOf CXg X.prog X.w X.K X.mg X.base Ng qg sg g cdg X.A X.stack s H Eg).tr pn xe) (.Call (.Name a p1) [] [] p2)
      (fun σZ HZ Q => σZ[i]? = some (some (.ref f)) ∧ HZ c' = some (CodeO c' (X.env.qual ++ "<lambda>")) ∧ tb σ HZ Q) := by
  refine ⟨fun pinsZ sZ σZ HZ Q IZ h => ?_⟩
  obtain ⟨hs, hc, ht⟩ := h
  refine wpAny_Call_Name_kw (thn ((pe_var (pos := p1) (i := i) hN hv hd hcd).run pinsZ sZ σZ HZ (fun v H1 => v = .ref f ∧ H1 = HZ) IZ ⟨.ref f, hs, rfl, rfl⟩) fun u s1 ⟨v, H1, I1, r1, q1⟩ => ?_)
  obtain ⟨ev, eH⟩ := q1
  subst ev
  rw [eH] at I1
  obtain rfl : u = Value.ref f := r1
  have of1 : s1.heap.get? f = some (PySem.W.kla_obj "<lambda>" (X.env.qual ++ "<lambda>") params body scope (cloFrom X.env.cells scope.names []) pm c' ctv) := I1.base.keep f _ hf hfn hfr (fun z => nomatch (show f ∈ ([] : List Addr) from z))
  refine PySem.W.callWith_F0 ⟨_, _, _, _, of1⟩ ?_
  have un : Un (frs X.stack) [] H HZ s.heap s1.heap := I1.base
  obtain ⟨⟨oc, vs, t, hoc, hdc, hvc⟩, _, _⟩ := I1.hok c' _ hc
  have rc : codeAny (model X.prog X.w) (X.A.deeper (envOfC qg sg s.heap.objs.size g cdg)) (.call (.ref f) ⟨[], []⟩) (CR (L2N.CX X.prog X.w) (envOfC qg sg s.heap.objs.size g cdg :: X.stack) X.prog X.w HZ s1 Q E) s1 := by
    refine PySem.W.kla_callFunE hr.depth of1 rfl L.co L.gen rfl ⟨c', oc, vs, t, rfl, hoc, hdc, hvc⟩ ?_
    rw [hbind]
    refine wpAny_pure (wpAny_newFunctionEnv (fun y hy => (L.own y hy).2) (fun y hy => absurd hy (by simp)) (fun h₁ hns hsb => ⟨I1.nolimit.fresh _ hsb, ?_⟩) L.kind)
    show codeAny _ _ (.expr body (lamEnv X scope s1.heap.objs.size f c')) _ _
    have kp : ∀ b o, s1.heap.get? b = some o → h₁.get? b = some o := fun b o e => hsb.extBut b o (Nat.ne_of_lt (Heap.lt_size e)) (Heap.get?_push_of_some _ e)
    have J : Inv (lamN X (X.A.deeper (envOfC qg sg s.heap.objs.size g cdg)) (envOfC qg sg s.heap.objs.size g cdg :: X.stack) s1 HZ E scope f c') [] σ HZ { s1 with heap := h₁, toks := s1.toks + ([] : List (Str × Value)).length } :=
      lam_startN I L I1.env0 hr.hd un hns kp
    refine PySem.W.kla_codeExpr (wpAny_mono ((hbody _ _ s1 HZ (hr.deeper _)).run [] _ _ HZ Q J ht) (fun v s' hq => ?_) fun e s' hq => hq)
    obtain ⟨w', H', J', rv, q⟩ := hq
    exact ⟨w', H', J'.os, J'.bare, J'.base, J'.hok, rv, q⟩
  have hx : Passes (L2N.CX X.prog X.w) ((cxOf CXg X.prog X.w X.K X.mg X.base Ng qg sg g cdg X.A X.stack s H Eg).tr pn xe) E := L2N.passes_call tk hW
  refine wpAny_call (codeAny_mono rc fun r s' hq => ?_)
  cases r with
  | error e => exact hx pinsZ σZ HZ s1 e s' I1 hq
  | ok fl =>
    cases fl with
    | ret u => exact I1.after hq
    | next => exact False.elim hq
    | brk => exact False.elim hq
    | cont => exact False.elim hq
end
end DL
end

section
set_option maxHeartbeats 2000000
namespace DL
open PySem PySem.Spec PySem.Calls PyProof.Rows L2
open LamX (CodeO TabS Tabs ExtN TabB LamS lamEnv)
/-- the def that calls what it got: a calls it; TT: what it makes of the lambda's reading -/
def GivesN (X : Cx) (Ng : List Str) (x : Str) (sg : Scope) (g : Addr) (cdg : Value) (bg : List Stmt) (a : Str) (q : Str) (TT : (XK → Hp → VK → Prop) → Hp → VK → Prop) : Prop :=
  ∀ (f c' : Addr) (s : Shared) (H : Hp) (Q : VK) (tl : XK → Hp → VK → Prop),
    (∀ (W : WX) (pn : List (Addr × Obj)) (xe : Value → Shared → Prop) (E : XK) (p1 p2 : Pos), L2N.Takes ((cxOf C8.CX0 X.prog X.w X.K X.mg X.base Ng x sg g cdg X.A X.stack s H C8.E0).tr pn xe) W → (∀ cls d σ' H', E cls d H' → W cls d σ' H') →
      PE ((cxOf C8.CX0 X.prog X.w X.K X.mg X.base Ng x sg g cdg X.A X.stack s H C8.E0).tr pn xe) (.Call (.Name a p1) [] [] p2) (fun σZ HZ Q => σZ[0]? = some (some (.ref f)) ∧ HZ c' = some (CodeO c' q) ∧ tl E HZ Q)) →
    H c' = some (CodeO c' q) → TT tl H Q →
    ∃ t, PSs (cxOf C8.CX0 X.prog X.w X.K X.mg X.base Ng x sg g cdg X.A X.stack s H C8.E0).nox bg t ∧ t { nx := fun _ H' => Q .non H', rt := Q } (L2.start Ng [.ref f]) H
def tLamP (P : Addr) (q : Str) (TT : (XK → Hp → VK → Prop) → Hp → VK → Prop) (t : XK → TE) : TE := fun σ H Q =>
  ∃ ps : Array Value, H P = some (.tbl ps) ∧ TriplesOk ps.toList ∧ (∀ (pos : Pos) (cv : Value), codeAmong pos ps.toList = some cv → ∃ c, cv = .ref c ∧ H c = some (CodeO c q)) ∧ ∀ H1, NewT H P q ps H1 → TT (fun E H' Q' => t E σ H' Q') H1 Q
section
variable {X : Cx}
theorem pe_lamN {TT : (XK → Hp → VK → Prop) → Hp → VK → Prop} {x a : Str} {g c P : Addr} {k : Nat} {pg : Arguments} {bg : List Stmt} {sg : Scope} {dV kV doc pm cdv ct oc : Value} {an od : Option Addr} {osl : Array (Option Value)} {Ng : List Str}
    {params : Arguments} {body : Expr} {scope : Scope} {t : XK → TE} {p lpos pos : Pos} (hg : Gl X x) (hm : X.mg x = some (.ref g)) (hk : PySem.W.keepIn X.K (.ref g) = true)
    (lk : X.K.lookup g = some ⟨oc, od, .func (PySem.W.fnOf x x pg bg sg dV kV doc pm an cdv ct), osl⟩) (hcg : PySem.W.codeIn X.K cdv x = true) (hb : L2.Binds X.K (PySem.W.fnOf x x pg bg sg dV kV doc pm an cdv ct) [a] []) (Sg : FnScope Ng [a] sg) (hNg : Ng[0]? = some a) (hva : Vis sg a)
    (hG : GivesN X Ng x sg g cdv bg a (X.env.qual ++ "<lambda>") TT)
    (TB : TabB X.base X.mg c P) (hcode : X.env.code = .ref c) (hr : Room (k + 2) X.A) (L : LamS X.env.scope scope) (hdef : defaultsOf params X.env = ([], []))
    (hbind : ∀ (q : Str) (cl : List (Str × Addr)) (pm cv ctv : Value), bindArgs (PySem.W.kla_fn "<lambda>" q params body scope cl pm cv ctv) ⟨[], []⟩ = pure [])
    (hbody : ∀ (A : Around) (outer : List Env) (s : Shared) (H : Hp) (E : XK) (f c' : Addr), Room k (A.deeper (lamEnv X scope s.heap.objs.size f c')) → PE (lamN X A outer s H E scope f c') body (t E))
    (hdb : (x == ("__debug__" : Str)) = false := by decide) (hd : (a == ("__debug__" : Str)) = false := by decide) (hcd : (a == ("__classdict__" : Str)) = false := by decide) :
    PE X (.Call (.Name x p) [.Lambda params body scope lpos] [] pos) (tLamP P (X.env.qual ++ "<lambda>") TT t) := by
  refine ⟨fun pins s σ H Q I h => ?_⟩
  obtain ⟨ps, hP, ht, ha, h⟩ := h
  refine wpAny_Call_Name_kw (ld_glob I hg hm ?_ hdb)
  refine PySem.W.callWith_K (h₀ := X.base) I.ok.mod.kin hk ?_ (by rfl) (by rfl)
  show wpAny _ _ (spliced ((false, eval (.Lambda params body scope lpos) X.env) :: backTo pos (starEach [] X.env))) _ _ s
  refine Calls.spliced_cons (lam_make3 I TB hcode hP ht ha hdef (L.has I.ok) fun f c' pm' ctv H1 s' I1 eN hf hfn hfr hco => ?_)
  refine Calls.spliced_nil ⟨I1.kIn, ?_⟩
  have rc : codeAny (model X.prog X.w) X.A (.call (.ref g) ⟨[.ref f], []⟩) (CR C8.CX0 X.stack X.prog X.w H1 s' Q C8.E0) s' := by
    refine LamX.run_ofS (N := Ng) (ps := [a]) (us := [.ref f]) (vs := [.ref f]) lk hcg Sg hr I1.env0 (hb s' [.ref f] I1.kIn rfl) (.cons rfl .nil) rfl fun hr' => ?_
    obtain ⟨t', ht', hq'⟩ := hG f c' s' H1 Q (fun E H' Q' => t E σ H' Q') (fun W pn xe E p1 p2 tk hW => pe_actN (i := 0) I1 L hf hfn hfr (hbind _ _ _ _ _) tk hW hr' (fun A outer s H hr2 => hbody A outer s H E f c' hr2) hNg hva hd hcd) hco (h H1 eN)
    exact ⟨t', ht'.nox, hq'⟩
  refine wpAny_call (codeAny_mono rc fun r s2 hq => ?_)
  cases r with
  | error e => exact (show False from hq).elim
  | ok fl =>
    cases fl with
    | ret u => exact I1.after hq
    | next => exact False.elim hq
    | brk => exact False.elim hq
    | cont => exact False.elim hq
end
end DL
end

section
namespace DL
open PySem PySem.Spec PySem.Calls PyProof.Rows L2
section
variable {X : Cx} {W : WX}
theorem dex_tup {i : Nat} {a : Addr} {es : List Expr} {k : Nat} {pos : Pos} {ms : List (M AV)} (h : DAx X W i a es (oL ms)) : DEx X W i a (.Tuple es k pos) (mOp gTup ms) := pe_weak (fe_tup h) fun σ H Q ⟨hi, B, r, O, h⟩ => by
  refine ⟨hi, tG.of (h.ops.mono ?_)⟩
  rintro vs H1 ⟨B1, xs, z, sb, p, hg, q⟩
  unfold gTup at hg
  obtain ⟨ds, e1, e2⟩ := Option.bind_eq_some_iff.mp hg
  split at e2
  · rename_i hl
    cases e2
    have d := dataAll_of e1 p
    refine ⟨by rw [d.length, ← line_eq]; exact hl, ?_⟩
    exact alc_tup q d
  · cases e2
end
end DL
end

section
namespace DL
open PySem
/-- ("told", what me tells), or ("refused", the class's word) -/
def mTold (i P : Nat) (q : Str) (me : M RV) (L : List String) (word : String → Str) : M RV := fun r => match r[i]? with
  | some (.own _ (.tab P' q')) => if P' = P ∧ q' = q then match mFz me r with
    | some (.ok d, r1) => some (.ok (.val (.tuple [.str "told", d])), r1)
    | some (.exc x, r1) => match x.row with
      | none => if L.contains x.cls then some (.ok (.val (.tuple [.str "refused", .str (word x.cls)])), r1) else none
      | some _ => none
    | none => none else none
  | _ => none
/-- the table of a law's code object, at P, gets slot i -/
def sTab (i P : Nat) (q : Str) : S := fun r => if i < r.length then some (.nx, r.set i (.own false (.tab P q))) else none
end DL
end

section
set_option maxHeartbeats 2000000
namespace DL
open PySem PySem.Spec PySem.Calls PyProof.Rows L2
open LamX (CodeO TabS TabB LamS lamEnv)
theorem takes_len {X : Cx} {W : WX} (tk : L2N.Takes X W) : L2N.Takes X (fun cls d σ H => σ.length = X.N.length → W cls d σ H) :=
  fun u s' ⟨a, B, sI, pins, σ, H, cls, d, e, I, nb, up, sky, na, os, ag, w⟩ => tk u s' ⟨a, B, sI, pins, σ, H, cls, d, e, I, nb, up, sky, na, os, ag, w I.len⟩
/-- nothing is known of the slots -/
theorem con_non {K : PySem.W.Frag} {B H : Hp} {σ : L2.St} {n : Nat} (h : Same B H) (hl : σ.length = n) : Con K B H σ (List.replicate n .non) (fun _ => False) := by
  have no : ∀ (i : Nat) (x : Sl), (List.replicate n Sl.non)[i]? = some x → x = .non := fun i x e => by
    rw [List.getElem?_replicate] at e
    split at e
    · exact (Option.some.inj e).symm
    · cases e
  exact ⟨⟨h, fun _ z => z.elim, fun _ z => z.elim, by rw [List.length_replicate, hl], fun i b d e => (by cases no i _ e), fun i b c e => (by cases no i _ e), fun i j b c b' c' l l' F F' _ e => (by cases no i _ e)⟩, fun i j k e => (by cases no i _ e)⟩
/-- the promise by the lambda's reading -/
def TTd (K : PySem.W.Frag) (mg : Str → Option Value) (L : List String) (word : String → Str) (tl : XK → Hp → VK → Prop) (H : Hp) (Q : VK) : Prop :=
  ∀ (E : XK) (Q' : VK), (∀ cls dx H', (∃ n, n ∈ L ∧ ∃ C, mg (Str.ofString n) = some (.ref C) ∧ cls = .ref C ∧ dx = none ∧ ∃ B', Same B' H' ∧
      ∀ B'' H'' O'' v, Step B' H' (fun _ => False) B'' H'' O'' → Same B'' H'' → Dq K B'' v (.tuple [.str "refused", .str (word n)]) → Q v H'') → E cls dx H') →
    (∀ y H', (∀ p o, H' p = none → TP o → Q (.ref p) (upd H' p (.frz o (.tup [.str "told", y])))) → Q' y H') → tl E H Q'
/-- what the suite means -/
def mWord (sem : Sem) : M RV := mOp gTup [oE (mC (.str "refused")), oE (mCall sem [])]
theorem mWord_eq {sem : Sem} {w : Str} (h : sem [] = some (.ok (.val (.str w)), [])) {r : Ro} : mWord sem r = some (.ok (.val (.tuple [.str "refused", .str w])), r) := by
  unfold mWord mOp oL oL oL oE M.bind mCall oL M.bind
  simp only [mC, M.ret, M.of, looks, RV.data, Option.map]
  rw [h]
  simp [ownIx, putBack, mFin, looks2, look2, gTup, Rs.data, M.ret, dataAll, show (2 : Nat) ≤ lineD by decide]
theorem told_gives {X : Cx} {Ng : List Str} {x a fnd e xc w y : Str} {sg : Scope} {g CS fw : Addr} {fdw : FuncData} {cdg : Value} {L : List String} {word : String → Str} {semw : String → Sem} {q : Str} {k j0 j1 j2 k1 k2 : Nat}
    {p1 p2 p3 p4 p5 p6 p7 p8 p9 p10 p11 p12 p13 p14 p15 p16 p17 p18 p19 p20 p21 : Pos}
    (hNd : Ng.Nodup) (hlen : Ng.length = 3) (h0 : Ng[0]? = some a) (h1 : Ng[1]? = some fnd) (h2 : Ng[2]? = some e) (hf : sg.names.lookup fnd = some .local) (he : sg.names.lookup e = some .local)
    (hge : sg.names.lookup xc = some .globalImplicit) (hme : X.mg xc = some (.ref CS)) (hgw : sg.names.lookup w = some .globalImplicit) (hmw : X.mg w = some (.ref fw)) (hkw : PySem.W.keepIn X.K (.ref fw) = true) (hbw : Binds X.K fdw [y] [])
    (hr : Room (k + 2) X.A) (hco : sg.kind = .function)
    (hL : ∀ n ∈ L, ∀ C, X.mg (Str.ofString n) = some (.ref C) → PySem.W.exmOne X.K (.ref C) (.ref CS) = some true)
    (hW : ∀ n ∈ L, ∀ C, X.mg (Str.ofString n) = some (.ref C) → FnW X.prog X.w X.K X.mg X.base k fw fdw y C (semw n) ∧ semw n [] = some (.ok (.val (.str (word n))), []))
    (hde : (xc == ("__debug__" : Str)) = false := by decide) (hdw : (w == ("__debug__" : Str)) = false := by decide) (hdf : (fnd == ("__debug__" : Str)) = false := by decide) (hcf : (fnd == ("__classdict__" : Str)) = false := by decide)
    (hdE : (e == ("__debug__" : Str)) = false := by decide) (hcE : (e == ("__classdict__" : Str)) = false := by decide) :
    GivesN X Ng x sg g cdg [.Assign [.Name fnd p1] (.Constant .none j0 p2) p3,
      .Try [.Assign [.Name fnd p4] (.Tuple [.Constant (.str "told") j1 p5, .Call (.Name a p6) [] [] p7] k1 p8) p9]
        [.ExceptHandler (some (.Name xc p10)) (some e) [.Assign [.Name fnd p11] (.Tuple [.Constant (.str "refused") j2 p12, .Call (.Name w p13) [.Name e p14] [] p15] k2 p16) p17] p18] [] [] p19,
      .Return (some (.Name fnd p21)) p20] a q (TTd X.K X.mg L word) := by
  intro f c' s H Q tl act hc h
  -- the frame of the def
  have hN3 : ∀ {σ : L2.St}, σ.length = 3 → σ.length = Ng.length := fun z => z.trans hlen.symm
  let Z : Cx := (cxOf C8.CX0 X.prog X.w X.K X.mg X.base Ng x sg g cdg X.A X.stack s H C8.E0).nox
  have hgl : Gl Z xc := hge
  have hglw : Gl Z w := hgw
  have hrZ : Room k Z.A := (show Room (k + 1) X.A from hr.mono (Nat.le_succ _)).deeper _
  have su : ∀ n ∈ L, ∀ C, X.mg (Str.ofString n) = some (.ref C) → ∀ (a0 : Addr) (oe : Obj) (pn : List (Addr × Obj)), L2N.Zn (.ref C) none oe → (∃ vs, oe.data = .fields vs) →
      PSs (Z.suite a0 ((a0, oe) :: pn)) [.Assign [.Name fnd p11] (.Tuple [.Constant (.str "refused") j2 p12, .Call (.Name w p13) [.Name e p14] [] p15] k2 p16) p17] (tX Z (fun _ _ _ _ => False) 2 a0 (sSeq (sSet 1 (mWord (semw n))) sNx)) := fun n hn C hC a0 oe pn hz hv =>
    dxx_set (X := Z.suite a0 ((a0, oe) :: pn)) (i := 2) (j := 1) hNd h1 (.inl hf) (dex_tup (dax_cons (dex_of de_str) (dax_cons (dex_wordC (X := Z) (hW n hn C hC).1 hrZ hz hv hglw hmw hkw hbw (pe_var (i := 2) h2 (.inl he) hdE hcE) hdw) dax_nil))) (dxx_of dss_nil)
  refine ⟨_, pss_cons (ps_set (X := Z) hNd h1 (.inl hf) pe_non) (pss_cons (L2N.ps_try_as (X := Z) (i := 2) (c := .ref CS) (Wout := fun _ _ _ _ => False)
      (tb := fun W D σ H' => σ.length = 3 ∧ σ[0]? = some (some (V.ref f)) ∧ H' c' = some (CodeO c' q) ∧ tl (fun cls dx H'' => ∀ σ' : L2.St, σ'.length = 3 → W cls dx σ' H'') H' (fun y H'' => [V.str "told", y].length ≤ sizeLine ∧ ∀ p o, H'' p = none → TP o → D.nx (σ.set 1 (some (.ref p))) (upd H'' p (.frz o (.tup [.str "told", y])))))
      (ts := fun a0 cls d D σ H' => ∃ n, n ∈ L ∧ ∃ C, X.mg (Str.ofString n) = some (.ref C) ∧ cls = .ref C ∧ d = none ∧ tX Z (fun _ _ _ _ => False) 2 a0 (sSeq (sSet 1 (mWord (semw n))) sNx) D σ H')
      rfl rfl hNd h2 he ⟨hgl, hde, .inl hme⟩ takesN0 ?_ ?_) (pss_one (ps_ret (pe_var (X := Z) (i := 1) h1 (.inl hf) hdf hcf)))), ?_⟩
  · intro W pn xe tk _
    refine pss_one (ps_weak (ps_set (X := Z.tr pn xe) hNd h1 (.inl hf) (fe_tup (pa_cons pe_str (pa_cons (act (fun cls d σ H => σ.length = Ng.length → W cls d σ H) pn xe (fun cls dx H'' => ∀ σ' : L2.St, σ'.length = 3 → W cls dx σ' H'') p6 p7 (takes_len tk) (fun cls d σ' H' z hl => z σ' (hl.trans hlen))) pa_nil)))) ?_)
    rintro D σ H' ⟨hl, g0, g1, g2⟩
    exact ⟨g0, g1, g2⟩
  · intro a0 oe cls d pn hz hv
    refine ⟨fun pins s σ H D I h => ?_⟩
    obtain ⟨n, hn, C, hC, rfl, rfl, hx⟩ := h
    exact (su n hn C hC a0 oe pn hz hv).run pins s σ H D I hx
  · have hl0 : (L2.start Ng [V.ref f]).length = 3 := by
      unfold L2.start
      simp [hlen]
    refine ⟨by rw [List.length_set]; exact hl0, ?_, hc, h _ _ (fun cls dx H' hx => ?_) fun y H' hy => ⟨show (2 : Nat) ≤ sizeLine by decide, fun p o hp ht => ⟨.ref p, ?_, hy p o hp ht⟩⟩⟩
    · rw [List.getElem?_set_ne (by decide)]
      rfl
    · obtain ⟨n, hn, C, hC, rfl, rfl, B', sb, fin⟩ := hx
      intro σ' hl
      refine ⟨true, hL n hn C hC, fun _ a0 ha => ⟨n, hn, C, hC, rfl, rfl, List.getElem?_set_self (by omega), B', List.replicate 3 .non, fun _ => False, con_non sb (by rw [List.length_set]; exact hl), .nx, [.non, .frz false (.tuple [.str "refused", .str (word n)]), .non], ?_, fun B'' H'' O'' σ'' st c2 bor => ?_⟩, fun z => by cases z⟩
      · unfold sSeq sSet sEx
        rw [mWord_eq (hW n hn C hC).2]
        rfl
      · obtain ⟨v, e1, e2⟩ := c2.frz 1 false _ rfl
        exact ⟨v, by rw [List.getElem?_set_ne (by decide)]; exact e1, fin B'' H'' O'' v st c2.sub e2⟩
    · rw [List.getElem?_set_self (by rw [List.length_set]; omega)]
end DL
end

section
set_option maxHeartbeats 2000000
namespace DL
open PySem PySem.Spec PySem.Calls PyProof.Rows L2
open LamX (CodeO TabS TabB LamS lamEnv)
theorem upd_swap {H : Hp} {a b : Addr} {o u : HO} (h : a ≠ b) : upd (upd H a o) b u = upd (upd H b u) a o := by
  funext c
  unfold upd
  by_cases h1 : c = a
  · subst h1; rw [if_neg h, if_pos rfl, if_pos rfl]
  · rw [if_neg h1]
    by_cases h2 : c = b
    · simp only [if_pos h2, if_neg h1]
    · simp only [if_neg h2, if_neg h1]
/-- the table of slot i behind the making of a lambda -/
theorem Con.newT {K : PySem.W.Frag} {B H H1 : Hp} {σ : L2.St} {r : Ro} {O : Addr → Prop} {i : Nat} {b : Bool} {P : Addr} {q : Str} (c : Con K B H σ r O) (e : r[i]? = some (.own b (.tab P q))) :
    ∃ ps : Array Value, H P = some (.tbl ps) ∧ TriplesOk ps.toList ∧ (∀ (pos : Pos) (cv : Value), codeAmong pos ps.toList = some cv → ∃ c, cv = .ref c ∧ H c = some (CodeO c q)) ∧
      (NewT H P q ps H1 → ∃ B1, Con K B1 H1 σ r O ∧ Step B H O B1 H1 O) := by
  obtain ⟨l, F, h1, h2, h3⟩ := c.own i b _ e
  obtain ⟨rfl, ps, g1, rfl, g2, g3⟩ := id h2
  refine ⟨ps, g1, g2, fun pos cv z => ?_, fun z => ?_⟩
  · obtain ⟨c', e1, e2⟩ := g3 pos cv z
    exact ⟨c', e1, c.sub _ _ e2⟩
  · rcases z with rfl | ⟨more, c', n1, t1, a1, rfl⟩
    · exact ⟨B, c, .refl⟩
    · obtain ⟨c1, s1⟩ := c.layF (p := c') (o := CodeO c' q) n1
      have np : l ≠ c' := ne_of_none g1 n1
      have bl : B l = none := c.off l (h3 l (by simp))
      have hl : upd H c' (CodeO c' q) l = some (.tbl ps) := by rw [upd_ne np]; exact g1
      have ho : OwnR K B H (.tab l q) l [l] := h2
      have hown : OwnR K (upd B c' (CodeO c' q)) (upd (upd H c' (CodeO c' q)) l (.tbl (ps ++ more))) (.tab l q) l [l] := ⟨rfl, _, upd_same, rfl, t1, fun pos cv hc => by
        rcases a1 pos cv hc with hc | rfl
        · obtain ⟨c0, e1, e2⟩ := g3 pos cv hc
          exact ⟨c0, e1, s1.sB _ _ e2⟩
        · exact ⟨c', rfl, upd_same⟩⟩
      have hlive : ∀ a, upd H c' (CodeO c' q) a ≠ none → upd (upd H c' (CodeO c' q)) l (.tbl (ps ++ more)) a ≠ none := fun a ha => by
        by_cases z : a = l
        · rw [z, upd_same]; simp
        · rw [upd_ne z]; exact ha
      obtain ⟨c2, s2⟩ := c1.change (ct' := .tab l q) (F' := [l]) (H' := upd (upd H c' (CodeO c' q)) l (.tbl (ps ++ more))) e h1 (ownR_same ho s1.sB fun a ha => by
          rw [List.mem_singleton.mp ha]
          exact upd_ne np) (fun a ha => upd_ne (by simpa using ha)) hown (fun a ha => ha) hlive (fun rows z => by cases z)
      rw [show r.set i (.own b (.tab l q)) = r from List.ext_getElem? fun j => by
          by_cases hj : i = j
          · subst hj
            rw [e, List.getElem?_set_self (List.getElem?_eq_some_iff.mp e).1]
          · rw [List.getElem?_set_ne hj]] at c2
      rw [upd_swap np]
      exact ⟨_, c2, s1.trans s2⟩
section
variable {X : Cx} {W : WX}
/-- the promise of the def that tells, by the lambda's meaning -/
theorem told_reads {B H B1 H1 : Hp} {r r1 : Ro} {O : Addr → Prop} {σ : L2.St} {me : M RV} {L : List String} {word : String → Str} {oo : EO D} {Q : VK} (s1 : Step B H O B1 H1 O) (c1 : Con X.K B1 H1 σ r O) (e1 : mFz me r = some (oo, r1))
    (p : match oo with
      | .ok d => ∀ B' H' O' y, Step B H O B' H' O' → Con X.K B' H' σ r1 O' → Bor r σ r1 σ → Dq X.K B' y (.tuple [.str "told", d]) → Q y H'
      | .exc x => x.row = none ∧ x.cls ∈ L ∧ ∀ B' H' O' y, Step B H O B' H' O' → Con X.K B' H' σ r1 O' → Bor r σ r1 σ → Dq X.K B' y (.tuple [.str "refused", .str (word x.cls)]) → Q y H') :
    TTd X.K X.mg L word (fun E H' Q' => tG (Cx.g X) (fun c d _ H => E c d H) me (rV (Cx.g X)) σ H' Q') H1 Q := by
  intro E Q' hE hQ
  refine tG.of (At.froz (show At (Cx.g X) (fun c d _ H => E c d H) (mFz me) (rD (Cx.g X)) B1 r O σ H1 Q' from ⟨c1, oo, r1, e1, ?_⟩))
  cases oo with
  | ok d =>
    intro B' H' O' y s2 c2 b2 dq
    refine hQ y H' fun pa ob hp ht => ?_
    obtain ⟨c3, s3⟩ := c2.layF (p := pa) (o := .frz ob (.tup [.str "told", y])) hp
    exact p _ _ _ (.ref pa) (s1.trans (s2.trans s3)) c3 b2 (.tup (tupAt_new ht) (.cons (.str _) (.cons (dp_same s3.sB dq) .nil)))
  | exc x =>
    obtain ⟨p1, p2, p⟩ := p
    intro B' H' O' cl dx s2 c2 b2 xn
    obtain ⟨C, hC, rfl, hx⟩ := xn
    rw [p1] at hx
    have hx : dx = none := hx
    subst hx
    refine hE _ _ _ ⟨x.cls, p2, C, hC, rfl, rfl, B', c2.sub, fun B'' H'' O'' v st sb dq => ?_⟩
    have st2 : Step B' H' O' B'' H'' O' := ⟨st.sB, fun a o h _ => st.keep a o h (fun z => z), st.live, fun a h _ hb => st.nB a h (fun z => z) hb, fun a h => .inl h⟩
    refine p B'' H'' O' v (s1.trans (s2.trans st2)) (c2.mono st.sB sb (fun a h => ?_) fun a h => st.nB a (c2.liv a h) (fun z => z) (c2.off a h)) b2 dq
    cases q : H' a with
    | none => exact absurd q (c2.liv a h)
    | some o => rw [st.keep a o q (fun z => z)]
theorem de_told {x a : Str} {g c P : Addr} {i k : Nat} {pg : Arguments} {bg : List Stmt} {sg : Scope} {dV kV doc pm cdv ct oc : Value} {an od : Option Addr} {osl : Array (Option Value)} {Ng : List Str} {L : List String} {word : String → Str} {me : M RV}
    {params : Arguments} {body : Expr} {scope : Scope} {p lpos pos : Pos} (hg : Gl X x) (hm : X.mg x = some (.ref g)) (hk : PySem.W.keepIn X.K (.ref g) = true)
    (lk : X.K.lookup g = some ⟨oc, od, .func (PySem.W.fnOf x x pg bg sg dV kV doc pm an cdv ct), osl⟩) (hcg : PySem.W.codeIn X.K cdv x = true) (hb : L2.Binds X.K (PySem.W.fnOf x x pg bg sg dV kV doc pm an cdv ct) [a] []) (Sg : FnScope Ng [a] sg) (hNg : Ng[0]? = some a) (hva : Vis sg a)
    (hG : GivesN X Ng x sg g cdv bg a (X.env.qual ++ "<lambda>") (TTd X.K X.mg L word))
    (TB : TabB X.base X.mg c P) (hcode : X.env.code = .ref c) (hr : Room (k + 2) X.A) (LS : LamS X.env.scope scope) (hdef : defaultsOf params X.env = ([], []))
    (hbind : ∀ (q : Str) (cl : List (Str × Addr)) (pm cv ctv : Value), bindArgs (PySem.W.kla_fn "<lambda>" q params body scope cl pm cv ctv) ⟨[], []⟩ = pure [])
    (hbody : ∀ (A : Around) (outer : List Env) (s : Shared) (H : Hp) (E : XK) (f c' : Addr), Room k (A.deeper (lamEnv X scope s.heap.objs.size f c')) → L2N.Takes (lamN X A outer s H E scope f c') (fun c d _ H => E c d H) →
      DE (lamN X A outer s H E scope f c') (fun c d _ H => E c d H) body me)
    (hdb : (x == ("__debug__" : Str)) = false := by decide) (hd : (a == ("__debug__" : Str)) = false := by decide) (hcd : (a == ("__classdict__" : Str)) = false := by decide) :
    DE X W (.Call (.Name x p) [.Lambda params body scope lpos] [] pos) (mTold i P (X.env.qual ++ "<lambda>") me L word) :=
  pe_weak (pe_lamN (t := fun E => tG (Cx.g X) (fun c d _ H => E c d H) me (rV (Cx.g X))) hg hm hk lk hcg hb Sg hNg hva hG TB hcode hr LS hdef hbind (fun A outer s H E f c' hr2 => hbody A outer s H E f c' hr2 (L2N.takes_of rfl rfl rfl rfl)) hdb hd hcd) fun σ H Q ⟨B, r, O, c0, o, r', e, p⟩ => by
    unfold mTold at e
    split at e
    · rename_i b P' q' hsl
      split at e
      · rename_i hq
        obtain ⟨rfl, rfl⟩ := hq
        have go : ∀ H1, ∃ ps : Array Value, _ := fun H1 => c0.newT (H1 := H1) hsl
        obtain ⟨ps, g1, g2, g3, _⟩ := go H
        refine ⟨ps, g1, g2, g3, fun H1 nt => ?_⟩
        obtain ⟨ps2, f1, f2, f3, f4⟩ := go H1
        rw [g1] at f1
        cases f1
        obtain ⟨B1, c1, s1⟩ := f4 nt
        cases q : mFz me r with
        | none => rw [q] at e; cases e
        | some z =>
          obtain ⟨oo, r1⟩ := z
          rw [q] at e
          refine told_reads s1 c1 q ?_
          cases oo with
          | ok d =>
            cases e
            exact fun B' H' O' y st ct bt dq => p B' H' O' y st ct bt dq
          | exc x0 =>
            simp only at e
            split at e
            · rename_i hrow
              split at e
              · rename_i hL
                cases e
                exact ⟨hrow, by simpa using hL, fun B' H' O' y st ct bt dq => p B' H' O' y st ct bt dq⟩
              · cases e
            · cases e
      · cases e
    · cases e
end
end DL
end

section
namespace DL
open PySem PySem.Spec PySem.Calls PyProof.Rows L2
section
variable {X : Cx} {W : WX} {i : Nat} {ad : Addr}
/-- a test by what is asked of the exception -/
def DBx (X : Cx) (W : WX) (i : Nat) (ad : Addr) (e : Expr) (m : M Bool) : Prop := PT X e (fun σ H Q => σ[i]? = some (some (V.ref ad)) ∧ tG (Cx.g X) W m rB σ H Q)
def DWx (X : Cx) (W : WX) (i : Nat) (ad : Addr) (e : Expr) (m : M Bool) : Prop := PW X e (fun σ H Q => σ[i]? = some (some (V.ref ad)) ∧ tG (Cx.g X) W m rB σ H Q)
theorem dbx_of {e : Expr} {m : M Bool} (h : DB X W e m) : DBx X W i ad e m := pt_weak h fun σ H Q h => h.2
theorem dbx_val {e : Expr} {m : M RV} (h : DEx X W i ad e m) (he : ∀ whole, isTrue e X.env whole = (do let v ← whole; standAt e.pos; holding [v] (truthy v)) := by intro _; rfl) : DBx X W i ad e (mTst m) := pt_weak (pt_val h he) fun σ H Q ⟨hi, B, r, O, h⟩ => by
  refine ⟨hi, tG.of ((h.bind later_rB (R := rV (Cx.g X))).mono ?_)⟩
  rintro y H1 ⟨v, B1, r1, O1, s1, x1, h1⟩
  exact h1.ofBool x1
theorem dwx_and1 {a : Expr} {pos : Pos} {m : M Bool} (h : DBx X W i ad a m) : DWx X W i ad (.BoolOp .And [a] pos) m := pw_and1 h
theorem dwx_and {a b : Expr} {es : List Expr} {pos : Pos} {m n : M Bool} (h : DBx X W i ad a m) (t : DWx X W i ad (.BoolOp .And (b :: es) pos) n) : DWx X W i ad (.BoolOp .And (a :: b :: es) pos) (mAnd m n) := pw_weak (pw_and h t) fun σ H Q ⟨hi, B, r, O, h⟩ => by
  refine ⟨hi, tG.of ((h.bind later_rB (R := rB)).mono ?_)⟩
  rintro y H1 ⟨v, B1, r1, O1, s1, x1, h1⟩
  cases x1
  cases y with
  | true => exact iteT ⟨hi, tG.of h1⟩
  | false => exact iteF (h1.ret rfl)
theorem dbx_w {e : Expr} {m : M Bool} (h : DWx X W i ad e m) : DBx X W i ad e m := PW.pt h
/-- if ..: return .. -/
theorem dxx_ifRet {c e : Expr} {pos pos2 : Pos} {sts : List Stmt} {t : M Bool} {me : M RV} {m2 : S} (hc : DBx X W i ad c t) (he : DE X W e me) (ht : PSs X sts (tX X W i ad m2)) : PSs X (.If c [.Return (some e) pos2] [] pos :: sts) (tX X W i ad (sSeq (sIf t (sRet me) sNx) m2)) :=
  pss_weak (pss_cons (ps_if hc (dss_one (ds_ret he)) pss_nil) ht) fun D σ H ⟨hi, B, r, O, h⟩ => by
    refine ⟨hi, tG.of (h.seq.ex.mono ?_)⟩
    rintro y H1 ⟨v, B1, r1, O1, s1, b1, x1, c1, o, r', e, p⟩
    cases x1
    cases y with
    | true =>
      refine iteT (tS.of (AtS.after s1 c1 b1 e ?_))
      have e : sRet me r1 = some (o, r') := e
      unfold sRet sEx at e
      cases q : me r1 with
      | none => rw [q] at e; cases e
      | some z =>
        obtain ⟨o1, r2⟩ := z
        rw [q] at e
        cases o1 with
        | ok a => cases e; exact p
        | exc x => cases e; exact p
    | false =>
      cases e
      exact iteF ⟨hi, p B1 H1 O1 σ s1 c1 b1⟩
theorem ps_setLcK {j : Nat} {y : Str} {py : Pos} {elt tg iter : Expr} {ifs : List Expr} {scope : Scope} {own : List (Str × Nat)} {pos spos : Pos} {wi : TI} {g : TG} {tt : TT} {te : TE} (hc : L2H.HotC X) (hN : X.N.Nodup) (hy : X.N[j]? = some y) (hyl : X.env.scope.names.lookup y = some .local)
    (hsw : swapsWith (.ListComp elt [⟨tg, iter, ifs, 0⟩] scope pos) (some (.Name y py)) spos.line X.env = pure true) (hi : PIK X tg iter wi) (ok : BlkOk X.N X.env.scope scope own)
    (hg : ∀ (s : Shared) (H : Hp) (C : Addr) (cl : List (Str × Addr)) (fp : List Addr), HotIn X s H fp → PG (X.blk s H scope (compEnvC scope cl C X.env) fp) tg g) (ht : ∀ (s : Shared) (H : Hp) (C : Addr) (cl : List (Str × Addr)) (fp : List Addr), PTs (X.blk s H scope (compEnvC scope cl C X.env) fp) ifs tt)
    (he : ∀ (s : Shared) (H : Hp) (C : Addr) (cl : List (Str × Addr)) (fp : List Addr), PE (X.blk s H scope (compEnvC scope cl C X.env) fp) elt te) (hs : ∀ x, foldedSetIterable iter X.env x = pure x := by intro _; rfl) :
    PS X (.Assign [.Name y py] (.ListComp elt [⟨tg, iter, ifs, 0⟩] scope pos) spos) (tAsg (tLc wi g tt te (own.map (·.2))) (gName j)) := by
  refine ⟨fun pins s σ H D I h => ?_⟩
  have h : tLc wi g tt te (own.map (·.2)) σ H (fun x H1 => gName j x σ H1 D.nx) := h
  rw [exec_Assign_Name_used _ _ _ _ hsw]
  refine wpAny_bind (wpAny_standAt (wpAny_bind ?_))
  show wpAny _ X.A (do let _ ← comprehension (.ListComp elt [⟨tg, iter, ifs, 0⟩] scope pos) scope X.env (firstIterPos [⟨tg, iter, ifs, 0⟩] pos) (newList []) false (eval iter X.env) (some (assign (.Name y py) X.env))) _ _ s
  refine wpAny_bind (thn (lc_coreK (Qf := fun _ s' => SP X pins D .next s') hc hN I hi ok hg ht he hs h fun L C s' m H' I' q hn f => ?_) fun _ s' hq => wpAny_pure (wpAny_pure hq))
  show wpAny _ _ (assign (.Name y py) X.env (.ref L)) _ _ _
  refine wpAny_assign_Name (store_ok2 (v := V.ref L) I' hN hy (.inl hyl) rfl (fun s2 I2 ⟨a, sb, ha⟩ => ?_) (.inr hyl))
  obtain ⟨f0, f1, f2, f3, f4, f5⟩ := f
  refine ⟨m, hn.sameBut sb (ha.elim (fun z => by rw [z]; exact f1) fun z => fun e => f4 y a z e.symm), fun h3 sb3 => ?_⟩
  exact ⟨_, H', I2.turned (t' := s2.toks) (fun b o hb e => (sb3.2 b hb).trans e) f0 f1 f3 f4 f5, q⟩
theorem dxx_setLcK {lo : Bool} {j : Nat} {y : Str} {py : Pos} {elt tg iter : Expr} {ifs : List Expr} {scope : Scope} {own : List (Str × Nat)} {pos spos : Pos} {mi : M (List D)} {ix : List Nat} {set : D → S} {t : M Bool} {me : M RV} {sts : List Stmt} {m2 : S} (hc : L2H.HotC X) (hN : X.N.Nodup) (hy : X.N[j]? = some y) (hyl : X.env.scope.names.lookup y = some .local)
    (hsw : swapsWith (.ListComp elt [⟨tg, iter, ifs, 0⟩] scope pos) (some (.Name y py)) spos.line X.env = pure true) (hi : DIK X W lo tg iter mi) (ok : BlkOk X.N X.env.scope scope own)
    (hg : ∀ (s : Shared) (H : Hp) (C : Addr) (cl : List (Str × Addr)) (fp : List Addr), HotIn X s H fp → DG (X.blk s H scope (compEnvC scope cl C X.env) fp) lo tg ix set) (ht : ∀ (s : Shared) (H : Hp) (C : Addr) (cl : List (Str × Addr)) (fp : List Addr), DTs (X.blk s H scope (compEnvC scope cl C X.env) fp) W0 ifs t)
    (he : ∀ (s : Shared) (H : Hp) (C : Addr) (cl : List (Str × Addr)) (fp : List Addr), DE (X.blk s H scope (compEnvC scope cl C X.env) fp) W0 elt me) (hix : ∀ j ∈ ix, j ∈ own.map (·.2)) (hrest : PSs X sts (tX X W i ad m2)) (hne : j ≠ i := by decide) (hs : ∀ x, foldedSetIterable iter X.env x = pure x := by intro _; rfl) :
    PSs X (.Assign [.Name y py] (.ListComp elt [⟨tg, iter, ifs, 0⟩] scope pos) spos :: sts) (tX X W i ad (sSeq (sSet j (mLc (own.map (·.2)) mi set t me)) m2)) := by
  have P : PS X (.Assign [.Name y py] (.ListComp elt [⟨tg, iter, ifs, 0⟩] scope pos) spos) (tAsg (tG (Cx.g X) W (mLc (own.map (·.2)) mi set t me) (rV (Cx.g X))) (gName j)) :=
    ps_weak (ps_setLcK (g := gD X.K lo ix set) (tt := tG (Cx.g X) W0 t rB) (te := tG (Cx.g X) W0 me (rV (Cx.g X))) hc hN hy hyl hsw hi ok hg ht he hs) fun D σ H h => lc_read hix h
  refine pss_weak (pss_cons P hrest) fun D σ H ⟨hi, B, r, O, h⟩ => tG.of (h.seq.ex.mono ?_)
  rintro y H1 ⟨v, B1, r1, O1, s1, b1, x1, c1, o, r', e, p⟩
  obtain ⟨rfl, O2, c2, b2, h2⟩ := put_ok c1 e x1 s1.live
  exact ⟨by rw [List.getElem?_set_ne hne]; exact hi, p B1 H1 O2 _ (put_step s1 h2) c2 (b1.trans b2)⟩
end
theorem hot_word {CX : CXT} {P : Program} {w : World} {K : PySem.W.Frag} {mg : Str → Option Value} {base : Heap} {N : List Str} {qual : Str} {scope : Scope} {f : Addr} {cd : Value} {A : Around} {outer : List Env} {s : Shared} {H : Hp} {E : XK} {p : Addr × Obj} (hot : L2H.Hot1 A p) :
    L2H.HotC (L2H.cxH CX P w K mg base N qual scope f cd A outer s H E p) := ⟨p, hot, List.mem_cons_self⟩
theorem units_H {k : Nat} {A : Around} (r : L2H.RoomH k A) : A.units + 64 < cLine := by have := r.un; omega
end DL
end

section
set_option maxHeartbeats 2000000
namespace DL
open PySem PySem.Spec PySem.Calls PyProof.Rows L2
section
variable {prog : Program} {w : World} {A : Around} {E : Value → Shared → Prop} {s : Shared}
theorem next_tuple_end_hot {it t x1 : Addr} {i : Nat} {items} {Q : Option Value → Shared → Prop} (hot : HotX.HotAt A x1 s.heap) (hit : IsTupIter s.heap it t i) (ht : IsTup s.heap t items) (hx : items[i]? = none)
    (hQ : ∀ h', Heap.ExtBut it s.heap h' → Q none { s with heap := h' }) : wpAny (model prog w) A (pyNext (.ref it)) Q E s := by
  obtain ⟨o, ho, hc, hd⟩ := id hit
  obtain ⟨ol, hol, _, nl, hdl⟩ := ht
  obtain ⟨hh, o1, vs1, h1, d1, c1⟩ := hot
  have n1 : it ≠ x1 := fun z => by
    rw [← z, ho] at h1
    cases h1
    rw [hd] at d1
    cases d1
    simp at c1
  unfold pyNext
  refine wpAny_bind (wpAny_attempt (wpAny_callSpecial?_slot (name := Str.ofString "__next__") hit.typeIs slot_tupleiter_next
    (wpAny_call_entry slot_tupleiter_next hit.typeIs entry_tupleiter_next ?_ (args_tupleiter_next _))))
  show wpAny _ _ (field (.ref it) 0 >>= _) _ _ s
  refine wpAny_bind (wpAny_field ho hd (x := .ref t) rfl ?_)
  show wpAny _ _ (if (Value.ref t == Value.none) = true then _ else _) _ _ s
  rw [if_neg (show ¬ ((Value.ref t == Value.none) = true) from Bool.false_ne_true)]
  show wpAny _ _ (field (.ref it) 1 >>= _) _ _ s
  refine wpAny_bind (wpAny_field ho hd (x := .int i 0) rfl ?_)
  show wpAny _ _ (seqItems? (.ref t) >>= _) _ _ s
  refine wpAny_bind (wpAny_seqItems hol hdl ?_)
  simp only [Int.toNat_natCast, hx]
  refine wpAny_bind (wpAny_rule (wpAny_bind (wpAny_setField ho hd (by simp) ?_)))
  show wpAny _ _ (newExc (.type "StopIteration") [] >>= _) _ _ _
  refine wpAny_bind ?_
  simp only [newExc, newTuple]
  refine wpAny_bind (wpAny_newObj_type ?_ (by size_fits))
  refine wpAny_bind (m := firstArgMember _ _) (wpAny_of_eq (a := Value.none) (by first | rfl | (simp only [firstArgMember]; rfl)) ?_)
  refine wpAny_newObj_type ?_ (by size_fits)
  have g1 : ∀ f, (s.heap.update it f).get? x1 = some o1 := fun f => (Heap.get?_update_other _ _ n1).trans h1
  refine HotX.raiseNew_hot ⟨hh, o1, vs1, Heap.get?_push_of_some _ (Heap.get?_push_of_some _ (g1 _)), d1, c1⟩ (Nat.ne_of_lt (Heap.lt_size (Heap.get?_push_of_some _ (g1 _)))) (Heap.get?_push_size _ rfl) rfl (by first | (simp; done) | (simp; omega) | (simp only [Array.size_append]; simp; omega)) ?_
  refine wpAny_bind (wpAny_isInstance (T := "StopIteration") (b := true) ⟨_, Heap.get?_update_self _ (Heap.get?_push_size _ rfl) rfl, rfl⟩ isSubtype_stop ?_)
  refine wpAny_pure (hQ _ ?_)
  intro b u hb e
  have e0 : ∀ f, (s.heap.update it f).get? b = some u := fun f => (Heap.get?_update_other _ _ (Ne.symm hb)).trans e
  rw [Heap.get?_update_other _ _ (Nat.ne_of_gt (Heap.lt_size (Heap.get?_push_of_some _ (e0 _))))]
  exact Heap.get?_push_of_some _ (Heap.get?_push_of_some _ (e0 _))
theorem hot_ext {a x1 : Addr} {h h' : Heap} (hot : HotX.HotAt A x1 h) (hb : ∀ b o, b ≠ a → h.get? b = some o → h'.get? b = some o) (ha : x1 ≠ a) : HotX.HotAt A x1 h' := by
  obtain ⟨hh, o1, vs1, h1, d1, c1⟩ := hot
  exact ⟨hh, o1, vs1, hb _ _ ha h1, d1, c1⟩
theorem assign_tuple_hot {env : Env} {elts : List Expr} {k : Nat} {pos : Pos} {t x1 : Addr} {items : Array Value} {Q : Unit → Shared → Prop} (hot : HotX.HotAt A x1 s.heap) (ht : IsTup s.heap t items)
    (hn : (assignEach elts env).length = items.size) (hstar : (assignEach elts env).findIdx? (·.1) = none)
    (h : ∀ h', Heap.ExtBut s.heap.objs.size s.heap h' → wpAny (model prog w) A (assignInOrder ((assignEach elts env).map (·.2)) items.toList) Q E { s with heap := h' }) :
    wpAny (model prog w) A (assign (.Tuple elts k pos) env (.ref t)) Q E s := by
  have hlt : t ≠ s.heap.objs.size := by obtain ⟨o, ho, _⟩ := ht; exact Nat.ne_of_lt (Heap.lt_size ho)
  have hx : x1 ≠ s.heap.objs.size := by obtain ⟨_, o1, vs1, h1, _⟩ := id hot; exact Nat.ne_of_lt (Heap.lt_size h1)
  rw [assign_Tuple]
  refine wpAny_bind (wpAny_standAt ?_)
  unfold unpack
  rw [hn, hstar]
  refine wpAny_bind (wpAny_holding ?_)
  unfold unpackItems
  refine wpAny_bind ?_
  unfold notIterableAtAll
  refine wpAny_bind (wpAny_specialOf ht.typeIs slot_tuple_iter.lookup ?_)
  refine wpAny_pure ?_
  simp only [Bool.false_eq_true, if_false]
  refine wpAny_bind (wpAny_holding (iter_tuple ht ?_))
  refine wpAny_bind (wpAny_holding (draw_tuple hlt items.size 0 _ _ ⟨_, Heap.get?_push_size _ rfl, rfl, rfl⟩ (ht.push _) (by omega) fun h₁ hit₁ hs₁ => ?_))
  rw [show List.take items.size (List.drop 0 items.toList) = items.toList by rw [List.drop_zero]; exact List.take_of_length_le (by simp), if_neg (by simp)]
  have hot1 : HotX.HotAt A x1 h₁ := hot_ext hot (fun b o hb e => hs₁.extBut b o hb (Heap.get?_push_of_some _ e)) hx
  refine wpAny_bind (wpAny_holding (next_tuple_end_hot (s := { s with heap := h₁ }) hot1 hit₁ ((ht.push _).extBut hs₁.extBut hlt) (by simp) fun h₂ he₂ => ?_))
  simp only [Option.isSome_none, Bool.false_eq_true, if_false]
  exact wpAny_pure (h h₂ fun b o hb e => he₂ b o hb (hs₁.extBut b o hb (Heap.get?_push_of_some _ e)))
end
section
variable {X : Cx} {s0 : Shared} {H0 : Hp} {scope : Scope} {ce : Env} {fp : List Addr}
theorem pg_tupH {es : List Expr} {k : Nat} {pos : Pos} {t : TGs} {n : Nat} (hin : HotIn X s0 H0 fp) (h : PGs (X.blk s0 H0 scope ce fp) es t)
    (hn : (assignEach es (X.blk s0 H0 scope ce fp).env).length = n := by rfl) (hst : (assignEach es (X.blk s0 H0 scope ce fp).env).findIdx? (·.1) = none := by rfl) : PG (X.blk s0 H0 scope ce fp) (.Tuple es k pos) (L2.gTup X.K n t) := by
  refine ⟨fun pins s σ H v u Q I r hw => ?_⟩
  obtain ⟨a, xs, e1, hq, hl, hw⟩ := hw
  obtain ⟨x1, hot⟩ := hin.at I
  subst e1
  cases r
  obtain ⟨its, rv, ht, hz⟩ := I.tuple hq
  refine assign_tuple_hot hot ht (by simp [hn, ← hl, rv.length]) hst fun h' hx => ?_
  exact h.run pins _ σ H xs _ Q (I.kept (t' := s.toks) fun b o e => hx b o (Nat.ne_of_lt (Heap.lt_size e)) e) (by simpa using rv) hw
theorem dg_tupH {lo : Bool} {es : List Expr} {k : Nat} {pos : Pos} {ix : List Nat} {fs : List (D → S)} (hin : HotIn X s0 H0 fp) (h : DGs (X.blk s0 H0 scope ce fp) es ix fs)
    (hn : (assignEach es (X.blk s0 H0 scope ce fp).env).length = fs.length := by rfl) (hst : (assignEach es (X.blk s0 H0 scope ce fp).env).findIdx? (·.1) = none := by rfl) : DG (X.blk s0 H0 scope ce fp) lo (.Tuple es k pos) ix (setT fs) := pg_weak (pg_tupH hin h hn hst) fun v σ H Q ⟨B, r, O, d, r', c, hd, e, q⟩ => by
  cases d with
  | tuple ds =>
    obtain ⟨a, xs, rfl, hs, ha⟩ : ∃ a xs, v = .ref a ∧ SqT X.K B a xs ∧ DqAll X.K B xs ds := by
      rcases hd with hd | ⟨_, a, xs, es, rfl, e, h1, h2⟩
      · obtain ⟨a, xs, rfl, h1, h2⟩ := dp_tuple hd
        exact ⟨a, xs, rfl, h1.sq, h2⟩
      · cases e
        exact ⟨a, xs, rfl, h1, h2⟩
    have e' : sets fs ds r = some (.nx, r') := e
    exact ⟨a, xs, rfl, sqt_same c.sub hs, by rw [ha.length]; exact sets_len e' rfl, B, r, O, ds, r', c, ha, e', q⟩
  | _ => cases e
end
end DL
end

section
namespace DL
open PySem
/-- an expression's end -/
def endP {α : Type} (X : Exn → Ro → Prop) (Q : α → Ro → Prop) : EO α → Ro → Prop
  | .ok a, r => Q a r
  | .exc x, r => X x r
@[simp, simp ↓] theorem endP_ok {α : Type} {X : Exn → Ro → Prop} {Q : α → Ro → Prop} {a : α} {r : Ro} : endP X Q (.ok a) r = Q a r := rfl
@[simp, simp ↓] theorem endP_exc {α : Type} {X : Exn → Ro → Prop} {Q : α → Ro → Prop} {x : Exn} {r : Ro} : endP X Q (.exc x) r = X x r := rfl
theorem endP.mono {α : Type} {X X' : Exn → Ro → Prop} {Q Q' : α → Ro → Prop} {o : EO α} {r : Ro} (h : endP X Q o r) (i : ∀ a r, Q a r → Q' a r) (j : ∀ x r, X x r → X' x r) : endP X' Q' o r := by
  cases o with
  | ok a => exact i _ _ h
  | exc x => exact j _ _ h
/-- a mark: what it speaks of is not looked into -/
inductive Tok {β : Type} (Q : β) : Type where
  | tok
/-- the option holds a value, of which Q holds -/
def optP {α : Type} (o : Option α) (Q : α → Prop) (t : Tok Q := .tok) : Prop := ∃ v, o = some v ∧ Q v
@[simp, simp ↓] theorem optP_some {α : Type} {v : α} {Q : α → Prop} : optP (some v) Q ↔ Q v := by simp [optP]
@[simp, simp ↓] theorem optP_none {α : Type} {Q : α → Prop} : optP none Q ↔ False := by simp [optP]
@[simp, simp ↓] theorem optP_map {α β : Type} {o : Option α} {f : α → β} {Q : β → Prop} : optP (o.map f) Q ↔ optP o fun a => Q (f a) := by cases o <;> simp
@[simp, simp ↓] theorem optP_bind {α β : Type} {o : Option α} {f : α → Option β} {Q : β → Prop} : optP (o.bind f) Q ↔ optP o fun a => optP (f a) Q := by cases o <;> simp
@[simp, simp ↓] theorem optP_ite {α : Type} {c : Prop} [Decidable c] {x : α} {Q : α → Prop} : optP (if c then some x else none) Q ↔ c ∧ Q x := by by_cases h : c <;> simp [h]
/-- the slots changed -/
def setP (r : Ro) (i : Nat) (x : Sl) (k : Ro → Prop) : Prop := k (r.set i x)
@[simp, simp ↓] theorem setP_0 {a x : Sl} {r : Ro} {k : Ro → Prop} : setP (a :: r) 0 x k ↔ k (x :: r) := Iff.rfl
@[simp, simp ↓] theorem setP_s {a x : Sl} {r : Ro} {n : Nat} {k : Ro → Prop} : setP (a :: r) (n + 1) x k ↔ setP r n x fun r' => k (a :: r') := Iff.rfl
/-- a fork -/
def ifP (x : Bool) (A B : Prop) (t : Tok A := .tok) (u : Tok B := .tok) : Prop := (x = true → A) ∧ (x = false → B)
@[simp, simp ↓] theorem ifP_true {A B : Prop} : ifP true A B ↔ A := by simp [ifP]
@[simp, simp ↓] theorem ifP_false {A B : Prop} : ifP false A B ↔ B := by simp [ifP]
@[simp, simp ↓] theorem ifP_not {x : Bool} {A B : Prop} : ifP (!x) A B ↔ ifP x B A := by cases x <;> simp
@[simp] theorem ifP_dec {c : Prop} [Decidable c] {A B : Prop} : ifP (decide c) A B ↔ (c → A) ∧ (¬ c → B) := by by_cases h : c <;> simp [h]
/-- the expression answers a value, of which Q holds, or raises what X says -/
def E {α : Type} (X : Exn → Ro → Prop) (m : M α) (r : Ro) (Q : α → Ro → Prop) : Prop := ∃ o r', m r = some (o, r') ∧ endP X Q o r'
/-- the statement ends so that Q holds -/
def W (s : S) (r : Ro) (Q : SO → Ro → Prop) : Prop := ∃ o r', s r = some (o, r') ∧ Q o r'
/-- the def answers so that Q holds -/
def Oks (f : Sem) (xs : List Rs) (Q : EO RV → List Rs → Prop) : Prop := ∃ o ys, f xs = some (o, ys) ∧ Q o ys
theorem E.mono {α : Type} {X : Exn → Ro → Prop} {m : M α} {r : Ro} {Q Q' : α → Ro → Prop} (h : E X m r Q) (i : ∀ a r, Q a r → Q' a r) : E X m r Q' := by
  obtain ⟨a, r', e, q⟩ := h
  exact ⟨a, r', e, q.mono i fun _ _ h => h⟩
theorem W.mono {s : S} {r : Ro} {Q Q' : SO → Ro → Prop} (h : W s r Q) (i : ∀ o r, Q o r → Q' o r) : W s r Q' := by
  obtain ⟨a, r', e, q⟩ := h
  exact ⟨a, r', e, i _ _ q⟩
theorem Oks.mono {f : Sem} {xs : List Rs} {Q Q' : EO RV → List Rs → Prop} (h : Oks f xs Q) (i : ∀ v ys, Q v ys → Q' v ys) : Oks f xs Q' := by
  obtain ⟨a, r', e, q⟩ := h
  exact ⟨a, r', e, i _ _ q⟩
theorem E_some {α : Type} {X : Exn → Ro → Prop} {m : M α} {r r' : Ro} {a : α} {Q : α → Ro → Prop} (h : m r = some (.ok a, r')) : E X m r Q ↔ Q a r' :=
  ⟨fun ⟨b, r2, e, q⟩ => (by rw [h] at e; cases e; exact q), fun q => ⟨.ok a, r', h, q⟩⟩
theorem E_exc {α : Type} {X : Exn → Ro → Prop} {m : M α} {r r' : Ro} {x : Exn} {Q : α → Ro → Prop} (h : m r = some (.exc x, r')) : E X m r Q ↔ X x r' :=
  ⟨fun ⟨b, r2, e, q⟩ => (by rw [h] at e; cases e; exact q), fun q => ⟨.exc x, r', h, q⟩⟩
theorem E_no {α : Type} {X : Exn → Ro → Prop} {m : M α} {r : Ro} {Q : α → Ro → Prop} (h : m r = none) : E X m r Q ↔ False :=
  ⟨fun ⟨b, r2, e, q⟩ => (by rw [h] at e; cases e), fun q => q.elim⟩
section
variable {α β : Type} {X : Exn → Ro → Prop} {r : Ro}
@[simp, simp ↓] theorem E_bind {m : M α} {f : α → M β} {Q : β → Ro → Prop} : E X (m.bind f) r Q ↔ E X m r fun a r' => E X (f a) r' Q := by
  cases hm : m r with
  | none => rw [E_no hm, E_no (by simp only [M.bind, hm])]
  | some p =>
    obtain ⟨o, r1⟩ := p
    cases o with
    | ok a =>
      rw [E_some hm]
      unfold E M.bind
      rw [hm]
    | exc x => rw [E_exc hm, E_exc (by simp only [M.bind, hm]; rfl)]
@[simp, simp ↓] theorem E_ret {a : α} {Q : α → Ro → Prop} : E X (M.ret a) r Q ↔ Q a r := E_some rfl
@[simp, simp ↓] theorem E_of {o : Option α} {Q : α → Ro → Prop} : E X (M.of o) r Q ↔ optP o fun a => Q a r := by
  cases o with
  | none => rw [E_no rfl]; simp
  | some a => rw [E_some (m := M.of (some a)) (r := r) (a := a) (r' := r) rfl]; simp
@[simp, simp ↓] theorem E_mC {d : D} {Q : RV → Ro → Prop} : E X (mC d) r Q ↔ Q (.val d) r := E_ret
@[simp, simp ↓] theorem E_mYes {Q : Bool → Ro → Prop} : E X mYes r Q ↔ Q true r := E_ret
def rdP (i : Nat) (r : Ro) (Q : RV → Ro → Prop) (x : Option Sl) (t : Tok Q := .tok) : Prop := match x with
  | some (.frz _ d) => Q (.val d) r
  | some (.own b (.lst ds)) => setP r i (.frz b (.list ds)) (Q (.val (.list ds)))
  | some (.own b (.ll rows)) => setP r i (.frz b (.list (rows.map .list))) (Q (.val (.list (rows.map .list))))
  | _ => False
@[simp, simp ↓] theorem rdP_frz {i : Nat} {b : Bool} {d : D} {Q : RV → Ro → Prop} : rdP i r Q (some (.frz b d)) = Q (.val d) r := rfl
@[simp, simp ↓] theorem rdP_lst {i : Nat} {b : Bool} {ds : List D} {Q : RV → Ro → Prop} : rdP i r Q (some (.own b (.lst ds))) = setP r i (.frz b (.list ds)) (Q (.val (.list ds))) := rfl
@[simp, simp ↓] theorem rdP_ll {i : Nat} {b : Bool} {rows : List (List D)} {Q : RV → Ro → Prop} : rdP i r Q (some (.own b (.ll rows))) = setP r i (.frz b (.list (rows.map .list))) (Q (.val (.list (rows.map .list)))) := rfl
@[simp, simp ↓] theorem E_mRd {i : Nat} {Q : RV → Ro → Prop} : E X (mRd i) r Q ↔ rdP i r Q (r[i]?) := by
  cases h : r[i]? with
  | none => rw [E_no (by simp only [mRd, h])]; simp [rdP]
  | some x => cases x with
    | non => rw [E_no (by simp only [mRd, h])]; simp [rdP]
    | frz b d => rw [E_some (by simp only [mRd, h]; rfl)]; simp [rdP]
    | own b c => cases c with
      | lst ds => rw [E_some (by simp only [mRd, h]; rfl)]; simp [rdP, setP]
      | ll ds => rw [E_some (by simp only [mRd, h]; rfl)]; simp [rdP, setP]
      | dK ds => rw [E_no (by simp only [mRd, h])]; simp [rdP]
      | dT ds => rw [E_no (by simp only [mRd, h])]; simp [rdP]
      | dl ds => rw [E_no (by simp only [mRd, h])]; simp [rdP]
      | tab _ _ => rw [E_no (by simp only [mRd, h])]; simp [rdP]
    | al j k => rw [E_no (by simp only [mRd, h])]; simp [rdP]
@[simp] theorem look_val {d : D} : look r (.val d) = some (.fz d) := rfl
@[simp] theorem look2_val {d : D} : look2 r (.val d) = some (.fz d) := rfl
def lookSl : Option Sl → Option Rs
  | some (.frz _ d) => some (.fz d)
  | some (.own _ c) => some (.ow c)
  | _ => none
def lookAl (r : Ro) (k : Nat) : Option Sl → Option Rs
  | some (.own _ (.ll rows)) => rows[k]?.map fun ds => .ow (.lst ds)
  | _ => none
def lookSl2 (r : Ro) : Option Sl → Option Rs
  | some (.frz _ d) => some (.fz d)
  | some (.own _ c) => some (.ow c)
  | some (.al j k) => lookAl r k r[j]?
  | _ => none
@[simp] theorem lookSl_frz {b : Bool} {d : D} : lookSl (some (.frz b d)) = some (.fz d) := rfl
@[simp] theorem lookSl_own {b : Bool} {c : Ct} : lookSl (some (.own b c)) = some (.ow c) := rfl
@[simp] theorem lookSl2_frz {b : Bool} {d : D} : lookSl2 r (some (.frz b d)) = some (.fz d) := rfl
@[simp] theorem lookSl2_own {b : Bool} {c : Ct} : lookSl2 r (some (.own b c)) = some (.ow c) := rfl
@[simp] theorem lookSl2_al {j k : Nat} : lookSl2 r (some (.al j k)) = lookAl r k r[j]? := rfl
@[simp] theorem lookAl_ll {b : Bool} {k : Nat} {rows : List (List D)} : lookAl r k (some (.own b (.ll rows))) = rows[k]?.map fun ds => .ow (.lst ds) := rfl
@[simp] theorem look_slot {i : Nat} : look r (.slot i) = lookSl r[i]? := by
  unfold look lookSl
  cases h : r[i]? with
  | none => simp [h]
  | some x => cases x <;> simp [h]
@[simp] theorem look2_slot {i : Nat} : look2 r (.slot i) = lookSl2 r r[i]? := by
  unfold look2 lookSl2
  cases h : r[i]? with
  | none => simp [h]
  | some x =>
    cases x with
    | al j k =>
      simp only [h]
      unfold lookAl
      cases h2 : r[j]? with
      | none => simp
      | some y => cases y with
        | own b c => cases c <;> simp
        | _ => simp
    | _ => simp [h]
@[simp, simp ↓] theorem E_oS {i : Nat} {Q : AV → Ro → Prop} : E X (oS i) r Q ↔ optP (lookSl2 r r[i]?) fun _ => Q (.slot i) r := by
  cases h : lookSl2 r r[i]? with
  | none => rw [E_no (by simp only [oS, look2_slot, h])]; simp
  | some x => rw [E_some (by simp only [oS, look2_slot, h]; rfl)]; simp
@[simp] theorem data_val {d : D} : (RV.val d).data = some d := rfl
@[simp] theorem data_lst {ds : List D} : (RV.new (.lst ds)).data = some (.list ds) := rfl
@[simp] theorem rdata_fz {d : D} : (Rs.fz d).data = some d := rfl
@[simp] theorem rdata_lst {ds : List D} : (Rs.ow (.lst ds)).data = some (.list ds) := rfl
@[simp, simp ↓] theorem E_oE {m : M RV} {Q : AV → Ro → Prop} : E X (oE m) r Q ↔ E X m r fun v r' => optP v.data fun d => Q (.val d) r' := by
  unfold oE
  rw [E_bind]
  constructor
  · intro h
    refine h.mono fun v r' h => ?_
    rw [E_of] at h
    obtain ⟨a, e, q⟩ := h
    cases hv : v.data with
    | none => rw [hv] at e; cases e
    | some d => rw [hv] at e; cases e; exact ⟨d, rfl, q⟩
  · intro h
    refine h.mono fun v r' h => ?_
    obtain ⟨d, e, q⟩ := h
    rw [E_of, e]
    exact ⟨_, rfl, q⟩
@[simp, simp ↓] theorem E_oL_nil {Q : List AV → Ro → Prop} : E X (oL []) r Q ↔ Q [] r := E_ret
@[simp, simp ↓] theorem E_oL_cons {m : M AV} {ms : List (M AV)} {Q : List AV → Ro → Prop} : E X (oL (m :: ms)) r Q ↔ E X m r fun a r1 => E X (oL ms) r1 fun as r2 => Q (a :: as) r2 := by
  show E X (m.bind fun a => (oL ms).bind fun as => M.ret (a :: as)) r Q ↔ _
  simp only [E_bind, E_ret]
@[simp] theorem looks2_nil : looks2 r [] = some [] := rfl
@[simp] theorem looks_nil : looks r [] = some [] := rfl
def consO : Option Rs → Option (List Rs) → Option (List Rs)
  | some x, some xs => some (x :: xs)
  | _, _ => none
@[simp] theorem consO_some {x : Rs} {xs : List Rs} : consO (some x) (some xs) = some (x :: xs) := rfl
@[simp] theorem consO_none {xs : Option (List Rs)} : consO none xs = none := by cases xs <;> rfl
@[simp] theorem looks2_cons {a : AV} {as : List AV} : looks2 r (a :: as) = consO (look2 r a) (looks2 r as) := by
  show (match look2 r a, looks2 r as with | some x, some xs => some (x :: xs) | _, _ => none) = _
  cases look2 r a <;> cases looks2 r as <;> rfl
@[simp] theorem looks_cons {a : AV} {as : List AV} : looks r (a :: as) = consO (look r a) (looks r as) := by
  show (match look r a, looks r as with | some x, some xs => some (x :: xs) | _, _ => none) = _
  cases look r a <;> cases looks r as <;> rfl
@[simp, simp ↓] theorem E_mFin {g : List Rs → Option RV} {as : List AV} {Q : RV → Ro → Prop} : E X (mFin g as) r Q ↔ optP (looks2 r as) fun xs => optP (g xs) fun v => Q v r := by
  cases h : looks2 r as with
  | none => rw [E_no (by simp only [mFin, h])]; simp
  | some xs => cases h2 : g xs with
    | none => rw [E_no (by simp [mFin, h, h2])]; simp [h2]
    | some v => rw [E_some (by simp only [mFin, h, h2]; rfl)]; simp [h2]
@[simp, simp ↓] theorem E_mOp {g : List Rs → Option RV} {os : List (M AV)} {Q : RV → Ro → Prop} : E X (mOp g os) r Q ↔ E X (oL os) r fun as r' => optP (looks2 r' as) fun xs => optP (g xs) fun v => Q v r' := by
  unfold mOp
  simp only [E_bind, E_mFin]
@[simp, simp ↓] theorem E_mOpL {g : List Rs → Option (List D)} {os : List (M AV)} {Q : List D → Ro → Prop} : E X (mOpL g os) r Q ↔ E X (oL os) r fun as r' => optP (looks2 r' as) fun xs => optP (g xs) fun v => Q v r' := by
  refine Iff.trans (E_bind (m := oL os)) ?_
  constructor
  · intro h
    refine h.mono fun as r' h => ?_
    obtain ⟨v, r2, e, q⟩ := h
    cases h2 : looks2 r' as with
    | none => simp [h2] at e
    | some xs => cases h3 : g xs with
      | none => simp [h2, h3] at e
      | some v => simp [h2, h3] at e; obtain ⟨rfl, rfl⟩ := e; exact ⟨xs, rfl, v, h3, q⟩
  · intro h
    refine h.mono fun as r' h => ?_
    obtain ⟨xs, e1, v, e2, q⟩ := h
    exact ⟨.ok v, r', by simp only [e1, e2]; rfl, q⟩
@[simp, simp ↓] theorem E_mTst {m : M RV} {Q : Bool → Ro → Prop} : E X (mTst m) r Q ↔ E X m r fun v r' => optP (boolV v) fun b => Q b r' := by
  unfold mTst
  simp only [E_bind, E_of]
@[simp] theorem boolV_b {b : Bool} : boolV (.val (.bool b)) = some b := rfl
@[simp, simp ↓] theorem E_mNot {m : M Bool} {Q : Bool → Ro → Prop} : E X (mNot m) r Q ↔ E X m r fun b r' => Q (!b) r' := by
  unfold mNot
  simp only [E_bind, E_ret]
@[simp, simp ↓] theorem E_mAnd {a b : M Bool} {Q : Bool → Ro → Prop} : E X (mAnd a b) r Q ↔ E X a r fun x r' => ifP x (E X b r' Q) (Q false r') := by
  unfold mAnd
  rw [E_bind]
  constructor <;> exact fun h => h.mono fun x r' h => by cases x <;> simpa using h
@[simp, simp ↓] theorem E_mOr {a b : M Bool} {Q : Bool → Ro → Prop} : E X (mOr a b) r Q ↔ E X a r fun x r' => ifP x (Q true r') (E X b r' Q) := by
  unfold mOr
  rw [E_bind]
  constructor <;> exact fun h => h.mono fun x r' h => by cases x <;> simpa using h
@[simp, simp ↓] theorem E_mFz {m : M RV} {Q : D → Ro → Prop} : E X (mFz m) r Q ↔ E X m r fun v r' => optP v.data fun d => Q d r' := by
  unfold mFz
  simp only [E_bind, E_of]
def andP (X : Exn → Ro → Prop) (b : M RV) (r : Ro) (Q : RV → Ro → Prop) : RV → Prop
  | .val (.bool true) => E X b r Q
  | .val (.bool false) => Q (.val (.bool false)) r
  | _ => False
@[simp, simp ↓] theorem andP_b {b : M RV} {x : Bool} {Q : RV → Ro → Prop} : andP X b r Q (.val (.bool x)) ↔ ifP x (E X b r Q) (Q (.val (.bool false)) r) := by cases x <;> simp [andP]
theorem E_none {Q : α → Ro → Prop} : ¬ E X (M.of none) r Q := fun h => (E_no rfl).mp h
@[simp, simp ↓] theorem E_mAndV {a b : M RV} {Q : RV → Ro → Prop} : E X (mAndV a b) r Q ↔ E X a r fun v r' => andP X b r' Q v := by
  unfold mAndV
  rw [E_bind]
  constructor
  · exact fun h => h.mono fun v r' h => by
      cases v with
      | new c => exact (E_none h).elim
      | val d => cases d with
        | bool x => cases x with
          | false => exact E_ret.mp h
          | true => exact h
        | _ => exact (E_none h).elim
  · exact fun h => h.mono fun v r' h => by
      cases v with
      | new c => exact h.elim
      | val d => cases d with
        | bool x => cases x with
          | false => exact E_ret.mpr h
          | true => exact h
        | _ => exact h.elim
def notP (r : Ro) (Q : RV → Ro → Prop) : RV → Prop
  | .val (.bool b) => Q (.val (.bool !b)) r
  | _ => False
@[simp, simp ↓] theorem notP_b {x : Bool} {Q : RV → Ro → Prop} : notP r Q (.val (.bool x)) = Q (.val (.bool !x)) r := rfl
@[simp, simp ↓] theorem E_mNotV {a : M RV} {Q : RV → Ro → Prop} : E X (mNotV a) r Q ↔ E X a r fun v r' => notP r' Q v := by
  unfold mNotV
  rw [E_bind]
  constructor
  · exact fun h => h.mono fun v r' h => by
      cases v with
      | new c => exact (E_none h).elim
      | val d => cases d with
        | bool x => exact E_ret.mp h
        | _ => exact (E_none h).elim
  · exact fun h => h.mono fun v r' h => by
      cases v with
      | new c => exact h.elim
      | val d => cases d with
        | bool x => exact E_ret.mpr h
        | _ => exact h.elim
@[simp, simp ↓] theorem E_mRow {m : M RV} {Q : List D → Ro → Prop} : E X (mRow m) r Q ↔ E X m r fun v r' => optP v.data fun d => optP (rowOf d) fun xs => Q xs r' := by
  unfold mRow
  simp only [E_bind, E_of, E_mFz]
@[simp] theorem rowOf_l {xs : List D} : rowOf (.list xs) = some xs := rfl
@[simp] theorem rowOf_t {xs : List D} : rowOf (.tuple xs) = some xs := rfl
/-- a call -/
def backP (r : Ro) (as : List AV) (xs ys : List Rs) (k : Ro → Prop) : Prop := k (putBack r as xs ys)
@[simp, simp ↓] theorem backP_nil {r : Ro} {k : Ro → Prop} : backP r [] [] [] k ↔ k r := Iff.rfl
@[simp, simp ↓] theorem backP_val {d : D} {as : List AV} {x y : Rs} {xs ys : List Rs} {k : Ro → Prop} : backP r (.val d :: as) (x :: xs) (y :: ys) k ↔ backP r as xs ys k := by
  cases x <;> exact Iff.rfl
@[simp, simp ↓] theorem backP_fz {i : Nat} {d : D} {as : List AV} {y : Rs} {xs ys : List Rs} {k : Ro → Prop} : backP r (.slot i :: as) (.fz d :: xs) (y :: ys) k ↔ backP r as xs ys k := Iff.rfl
def put1P (i : Nat) (y : Rs) (r : Ro) (k : Ro → Prop) (x : Option Sl) (t : Tok k := .tok) : Prop := match x with
  | some (.own b _) => setP r i (backSl b y) k
  | _ => k r
@[simp, simp ↓] theorem put1P_own {i : Nat} {y : Rs} {b : Bool} {c : Ct} {k : Ro → Prop} : put1P i y r k (some (.own b c)) ↔ setP r i (backSl b y) k := Iff.rfl
@[simp, simp ↓] theorem backP_ow {i : Nat} {c : Ct} {as : List AV} {y : Rs} {xs ys : List Rs} {k : Ro → Prop} : backP r (.slot i :: as) (.ow c :: xs) (y :: ys) k ↔ put1P i y r (fun r' => backP r' as xs ys k) r[i]? := by
  show k (putBack (put1 r i y) as xs ys) ↔ _
  unfold put1 put1P
  cases r[i]? with
  | none => exact Iff.rfl
  | some x => cases x <;> exact Iff.rfl
def callP (o : Option (EO RV × List Rs)) (n : Nat) (k : EO RV → List Rs → Prop) (t : Tok k := .tok) : Prop := ∃ v ys, o = some (v, ys) ∧ ys.length = n ∧ k v ys
@[simp, simp ↓] theorem callP_ok {v : EO RV} {ys : List Rs} {n : Nat} {k : EO RV → List Rs → Prop} : callP (some (v, ys)) n k ↔ ys.length = n ∧ k v ys := ⟨fun ⟨a, b, e, q⟩ => (by cases e; exact q), fun q => ⟨v, ys, rfl, q⟩⟩
@[simp, simp ↓] theorem E_mCall {f : Sem} {ms : List (M AV)} {Q : RV → Ro → Prop} : E X (mCall f ms) r Q ↔ E X (oL ms) r fun as r' => optP (looks r' as) fun xs => (ownIx as xs).Nodup ∧ (ownIx as xs).all (noAl r') = true ∧ callP (f xs) xs.length fun o ys => backP r' as xs ys fun r' => endP X Q o r' := by
  refine Iff.trans (E_bind (m := oL ms)) ?_
  constructor
  · intro h
    refine h.mono fun as r' h => ?_
    obtain ⟨v, r2, e, q⟩ := h
    cases h2 : looks r' as with
    | none => simp [h2] at e
    | some xs =>
      simp only [h2] at e
      split at e
      · rename_i hc
        cases h3 : f xs with
        | none => simp [h3] at e
        | some p =>
          obtain ⟨o, ys⟩ := p
          simp only [h3] at e
          split at e
          · cases e
            exact ⟨xs, rfl, hc.1, hc.2, _, ys, h3, by assumption, q⟩
          · cases e
      · cases e
  · intro h
    refine h.mono fun as r' h => ?_
    obtain ⟨xs, e1, e2, e3, v, ys, e4, e5, q⟩ := h
    exact ⟨v, _, by simp only [e1, e4]; rw [if_pos ⟨e2, e3⟩, if_pos e5], q⟩
end
end DL
end

section
namespace DL
open PySem
theorem W_some {s : S} {r r' : Ro} {o : SO} {Q : SO → Ro → Prop} (h : s r = some (o, r')) : W s r Q ↔ Q o r' :=
  ⟨fun ⟨b, r2, e, q⟩ => (by rw [h] at e; cases e; exact q), fun q => ⟨o, r', h, q⟩⟩
theorem W_no {s : S} {r : Ro} {Q : SO → Ro → Prop} (h : s r = none) : W s r Q ↔ False :=
  ⟨fun ⟨b, r2, e, q⟩ => (by rw [h] at e; cases e), fun q => q.elim⟩
def thenP (b : S) (Q : SO → Ro → Prop) : SO → Ro → Prop
  | .nx, r => W b r Q
  | o, r => Q o r
section
variable {r : Ro} {Q : SO → Ro → Prop}
@[simp, simp ↓] theorem thenP_nx {b : S} : thenP b Q .nx r = W b r Q := rfl
@[simp, simp ↓] theorem thenP_ret {b : S} {v : RV} : thenP b Q (.ret v) r = Q (.ret v) r := rfl
@[simp, simp ↓] theorem thenP_rets {b : S} {i : Nat} : thenP b Q (.rets i) r = Q (.rets i) r := rfl
@[simp, simp ↓] theorem thenP_exc {b : S} {x : Exn} : thenP b Q (.exc x) r = Q (.exc x) r := rfl
@[simp, simp ↓] theorem thenP_brk {b : S} : thenP b Q .brk r = Q .brk r := rfl
@[simp, simp ↓] theorem thenP_cnt {b : S} : thenP b Q .cnt r = Q .cnt r := rfl
@[simp, simp ↓] theorem W_nx : W sNx r Q ↔ Q .nx r := W_some rfl
@[simp, simp ↓] theorem W_seq {a b : S} : W (sSeq a b) r Q ↔ W a r (thenP b Q) := by
  constructor
  · rintro ⟨o, r', e, q⟩
    unfold sSeq at e
    cases h : a r with
    | none => simp [h] at e
    | some p =>
      obtain ⟨o1, r1⟩ := p
      rw [h] at e
      refine ⟨o1, r1, h, ?_⟩
      cases o1 with
      | nx => exact ⟨o, r', e, q⟩
      | _ => simp only [Option.some.injEq, Prod.mk.injEq] at e; obtain ⟨rfl, rfl⟩ := e; exact q
  · rintro ⟨o1, r1, h, q⟩
    cases o1 with
    | nx =>
      obtain ⟨o, r', e, q⟩ := q
      exact ⟨o, r', by unfold sSeq; rw [h]; exact e, q⟩
    | _ => exact ⟨_, r1, by unfold sSeq; rw [h], q⟩
@[simp, simp ↓] theorem W_ex {α : Type} {m : M α} {k : α → S} : W (sEx m k) r Q ↔ E (fun x => Q (.exc x)) m r fun a r' => W (k a) r' Q := by
  cases hm : m r with
  | none => rw [E_no hm, W_no (by simp only [sEx, hm])]
  | some p =>
    obtain ⟨o, r1⟩ := p
    cases o with
    | ok a =>
      rw [E_some hm]
      unfold W sEx
      rw [hm]
    | exc x => rw [E_exc hm, W_some (by simp only [sEx, hm]; rfl)]
@[simp, simp ↓] theorem W_ret {m : M RV} : W (sRet m) r Q ↔ E (fun x => Q (.exc x)) m r fun v r' => Q (.ret v) r' := by
  refine Iff.trans (W_ex (m := m)) ?_
  constructor <;> exact fun h => h.mono fun v r' q => by
    first | exact (W_some rfl).mp q | exact (W_some rfl).mpr q
@[simp, simp ↓] theorem W_if {t : M Bool} {a b : S} : W (sIf t a b) r Q ↔ E (fun x => Q (.exc x)) t r fun x r' => ifP x (W a r' Q) (W b r' Q) := by
  refine Iff.trans (W_ex (m := t)) ?_
  constructor <;> exact fun h => h.mono fun v r' q => by cases v <;> simpa using q
@[simp, simp ↓] theorem W_drop {m : M RV} : W (sDrop m) r Q ↔ E (fun x => Q (.exc x)) m r fun _ r' => Q .nx r' := by
  refine Iff.trans (W_ex (m := m)) ?_
  simp only [W_nx]
def putP (i : Nat) (v : RV) (r : Ro) (Q : SO → Ro → Prop) (x : Option Sl) (t : Tok Q := .tok) : Prop := match x with
  | none => False
  | some x => putSl.pinnedB x = false ∧ match v with
    | .val d => setP r i (.frz false d) (Q .nx)
    | .new (.ll rows) => noAl r i = true ∧ setP r i (.own false (.ll rows)) (Q .nx)
    | .new c => setP r i (.own false c) (Q .nx)
@[simp, simp ↓] theorem putP_val {i : Nat} {d : D} {x : Sl} : putP i (.val d) r Q (some x) ↔ putSl.pinnedB x = false ∧ setP r i (.frz false d) (Q .nx) := Iff.rfl
@[simp, simp ↓] theorem putP_ll {i : Nat} {rows : List (List D)} {x : Sl} : putP i (.new (.ll rows)) r Q (some x) ↔ putSl.pinnedB x = false ∧ noAl r i = true ∧ setP r i (.own false (.ll rows)) (Q .nx) := Iff.rfl
@[simp, simp ↓] theorem putP_lst {i : Nat} {ds : List D} {x : Sl} : putP i (.new (.lst ds)) r Q (some x) ↔ putSl.pinnedB x = false ∧ setP r i (.own false (.lst ds)) (Q .nx) := Iff.rfl
@[simp, simp ↓] theorem putP_dK {i : Nat} {ds : List (Ky × D)} {x : Sl} : putP i (.new (.dK ds)) r Q (some x) ↔ putSl.pinnedB x = false ∧ setP r i (.own false (.dK ds)) (Q .nx) := Iff.rfl
@[simp] theorem pinned_frz {b : Bool} {d : D} : putSl.pinnedB (.frz b d) = b := rfl
@[simp] theorem pinned_own {b : Bool} {c : Ct} : putSl.pinnedB (.own b c) = b := rfl
@[simp] theorem pinned_non : putSl.pinnedB .non = false := rfl
@[simp] theorem pinned_al {j k : Nat} : putSl.pinnedB (.al j k) = false := rfl
@[simp, simp ↓] theorem W_put {i : Nat} {v : RV} : W (putSl i v) r Q ↔ putP i v r Q r[i]? := by
  cases h : r[i]? with
  | none => rw [W_no (by simp [putSl, h])]; exact Iff.rfl
  | some x =>
    cases hp : putSl.pinnedB x with
    | true => rw [W_no (by simp [putSl, h, hp])]; simp [putP, hp, setP]
    | false =>
      cases v with
      | val d => rw [W_some (by simp [putSl, h, hp]; exact ⟨rfl, rfl⟩)]; simp [putP, hp, setP]
      | new c => cases c with
        | ll rows =>
          cases hn : noAl r i with
          | true => rw [W_some (by simp [putSl, h, hp, hn]; exact ⟨rfl, rfl⟩)]; simp [putP, hp, hn, setP]
          | false => rw [W_no (by simp [putSl, h, hp, hn])]; simp [putP, hp, hn, setP]
        | _ => rw [W_some (by simp [putSl, h, hp]; exact ⟨rfl, rfl⟩)]; simp [putP, hp, setP]
@[simp, simp ↓] theorem W_setN {i : Nat} {d : D} : W (setN i d) r Q ↔ putP i (.val d) r Q r[i]? := W_put
@[simp, simp ↓] theorem W_set {i : Nat} {m : M RV} : W (sSet i m) r Q ↔ E (fun x => Q (.exc x)) m r fun v r' => putP i v r' Q r'[i]? := by
  refine Iff.trans (W_ex (m := m)) ?_
  simp only [W_put]
@[simp, simp ↓] theorem W_sets_nil : W (sets [] []) r Q ↔ Q .nx r := W_nx
@[simp, simp ↓] theorem W_sets_cons {f : D → S} {fs : List (D → S)} {d : D} {ds : List D} : W (sets (f :: fs) (d :: ds)) r Q ↔ W (f d) r (thenP (sets fs ds) Q) := W_seq
@[simp, simp ↓] theorem W_setT {fs : List (D → S)} {ds : List D} : W (setT fs (.tuple ds)) r Q ↔ W (sets fs ds) r Q := Iff.rfl
@[simp, simp ↓] theorem W_par {i j : Nat} {m n : M RV} : W (sPar i j m n) r Q ↔ E (fun x => Q (.exc x)) m r fun v r1 => optP v.data fun d => E (fun x => Q (.exc x)) n r1 fun u r2 => optP u.data fun e => putP i (.val d) r2 (thenP (putSl j (.val e)) Q) r2[i]? := by
  unfold sPar
  simp only [W_ex, E_mFz, W_seq, W_put]
def loopP (I : Ro → Prop) (Q : SO → Ro → Prop) : SO → Ro → Prop
  | .nx, r => I r
  | .cnt, r => I r
  | .brk, r => Q .nx r
  | o, r => Q o r
@[simp, simp ↓] theorem loopP_nx {I : Ro → Prop} : loopP I Q .nx r = I r := rfl
@[simp, simp ↓] theorem loopP_cnt {I : Ro → Prop} : loopP I Q .cnt r = I r := rfl
@[simp, simp ↓] theorem loopP_brk {I : Ro → Prop} : loopP I Q .brk r = Q .nx r := rfl
@[simp, simp ↓] theorem loopP_rets {I : Ro → Prop} {i : Nat} : loopP I Q (.rets i) r = Q (.rets i) r := rfl
@[simp, simp ↓] theorem loopP_exc {I : Ro → Prop} {x : Exn} : loopP I Q (.exc x) r = Q (.exc x) r := rfl
@[simp, simp ↓] theorem loopP_ret {I : Ro → Prop} {v : RV} : loopP I Q (.ret v) r = Q (.ret v) r := rfl
def nxP (body : S) (P : SO → Ro → Prop) : SO → Ro → Prop
  | .nx, r => W body r P
  | _, _ => False
@[simp, simp ↓] theorem nxP_nx {b : S} {P : SO → Ro → Prop} : nxP b P .nx r = W b r P := rfl
theorem forS_nil {set : D → S} {body : S} : Q .nx r → W (forS set body []) r Q := fun h => W_nx.mpr h
theorem forS_cons {set : D → S} {body : S} {d : D} {ds : List D} (h : W (set d) r (nxP body (loopP (fun r => W (forS set body ds) r Q) Q))) : W (forS set body (d :: ds)) r Q := by
  obtain ⟨o, r1, e1, h⟩ := h
  cases o with
  | nx =>
    obtain ⟨o, r2, e2, h⟩ := h
    cases o with
    | nx =>
      obtain ⟨o, r3, e3, q⟩ := h
      exact ⟨o, r3, by unfold forS; simp only [e1, e2]; exact e3, q⟩
    | cnt =>
      obtain ⟨o, r3, e3, q⟩ := h
      exact ⟨o, r3, by unfold forS; simp only [e1, e2]; exact e3, q⟩
    | brk => exact ⟨.nx, r2, by unfold forS; simp only [e1, e2], h⟩
    | ret v => exact ⟨.ret v, r2, by unfold forS; simp only [e1, e2], h⟩
    | rets i => exact ⟨.rets i, r2, by unfold forS; simp only [e1, e2], h⟩
    | exc x => exact ⟨.exc x, r2, by unfold forS; simp only [e1, e2], h⟩
  | _ => exact h.elim
/-- a for loop by an invariant: I k before the k-th item -/
theorem forS_inv {set : D → S} {body : S} (I : Nat → Ro → Prop) : ∀ (ds : List D) (n : Nat) (r : Ro), I n r →
    (∀ k d r, ds[k]? = some d → I (n + k) r → W (set d) r (nxP body (loopP (I (n + k + 1)) Q))) → (∀ r, I (n + ds.length) r → Q .nx r) → W (forS set body ds) r Q := by
  intro ds
  induction ds with
  | nil => intro n r h _ hq; exact forS_nil (hq _ h)
  | cons d ds ih =>
    intro n r h step hq
    refine forS_cons ((step 0 d r rfl h).mono fun o r1 h1 => ?_)
    cases o with
    | nx =>
      refine W.mono h1 fun o r2 h2 => ?_
      have go : I (n + 1) r2 → W (forS set body ds) r2 Q := fun h2 => ih (n + 1) r2 h2 (fun k d r e h => by
        have := step (k + 1) d r e (by rw [show n + (k + 1) = n + 1 + k by omega]; exact h)
        rw [show n + (k + 1) + 1 = n + 1 + k + 1 by omega] at this
        exact this) fun r h => hq r (by rw [show n + (d :: ds).length = n + 1 + ds.length by simp; omega]; exact h)
      cases o with
      | nx => exact go h2
      | cnt => exact go h2
      | brk => exact h2
      | ret v => exact h2
      | rets i => exact h2
      | exc x => exact h2
    | _ => exact h1.elim
@[simp, simp ↓] theorem W_for {mi : M (List D)} {set : D → S} {body : S} : W (sFor mi set body) r Q ↔ E (fun x => Q (.exc x)) mi r fun ds r' => W (forS set body ds) r' Q := W_ex
/-- range's items -/
theorem rng0_get {n : Int} {k : Nat} {d : D} (h : (rng 0 n)[k]? = some d) : d = .int k ∧ (k : Int) < n := by
  unfold rng at h
  rw [List.getElem?_map] at h
  cases h2 : (List.range (n - 0).toNat)[k]? with
  | none => rw [h2] at h; cases h
  | some j =>
    rw [h2] at h
    obtain ⟨h3, h4⟩ := List.getElem?_eq_some_iff.mp h2
    simp at h3 h4
    subst h4
    cases h
    exact ⟨by simp, by omega⟩
theorem rng0_len {n : Int} : (rng 0 n).length = n.toNat := by simp [rng]
def updK (r : Ro) (i : Nat) (ds : List D) (k : Ro → Prop) : Prop := k (updSl r i ds)
def updP (i : Nat) (ds : List D) (r : Ro) (K : Ro → Prop) (x : Option Sl) (t : Tok K := .tok) : Prop := match x with
  | some (.own b _) => setP r i (.own b (.lst ds)) K
  | some (.al j k) => match r[j]? with
    | some (.own b (.ll rows)) => setP r j (.own b (.ll (rows.set k ds))) K
    | _ => K r
  | _ => K r
def updAl (j k : Nat) (ds : List D) (r : Ro) (K : Ro → Prop) (x : Option Sl) (t : Tok K := .tok) : Prop := match x with
  | some (.own b (.ll rows)) => setP r j (.own b (.ll (rows.set k ds))) K
  | _ => K r
@[simp, simp ↓] theorem updP_own {i : Nat} {ds : List D} {b : Bool} {c : Ct} {K : Ro → Prop} : updP i ds r K (some (.own b c)) ↔ setP r i (.own b (.lst ds)) K := Iff.rfl
@[simp, simp ↓] theorem updAl_ll {j k : Nat} {ds : List D} {b : Bool} {rows : List (List D)} {K : Ro → Prop} : updAl j k ds r K (some (.own b (.ll rows))) ↔ setP r j (.own b (.ll (rows.set k ds))) K := Iff.rfl
@[simp, simp ↓] theorem updP_al {i j k : Nat} {ds : List D} {K : Ro → Prop} : updP i ds r K (some (.al j k)) ↔ updAl j k ds r K r[j]? := Iff.rfl
@[simp, simp ↓] theorem updK_def {i : Nat} {ds : List D} {K : Ro → Prop} : updK r i ds K ↔ updP i ds r K r[i]? := by
  unfold updK updSl updP
  cases r[i]? with
  | none => exact Iff.rfl
  | some x => cases x with
    | al j k =>
      simp only []
      cases r[j]? with
      | none => exact Iff.rfl
      | some y => cases y with
        | own b c => cases c <;> exact Iff.rfl
        | _ => exact Iff.rfl
    | _ => exact Iff.rfl
def lstO : Option Rs → Option (List D)
  | some (.ow (.lst ds)) => some ds
  | _ => none
@[simp] theorem lstO_lst {ds : List D} : lstO (some (.ow (.lst ds))) = some ds := rfl
@[simp] theorem listAt_def {i : Nat} : listAt r i = lstO (lookSl2 r r[i]?) := by
  unfold listAt
  rw [look2_slot]
  rfl
def mutP (X : Exn → Ro → Prop) (g : List D → List D → Option (List D × D)) (i : Nat) (ms : List (M AV)) (Q : RV → Ro → Prop) (r : Ro) (x : Option (List D)) (t : Tok Q := .tok) (u : Tok X := .tok) (w : Tok ms := .tok) : Prop := match x with
  | none => False
  | some _ => E X (oL ms) r fun as r' => optP (listAt r' i) fun ds => optP (looks2 r' as) fun xs => optP (dataAll xs) fun es => optP (g ds es) fun p => updK r' i p.1 (Q (.val p.2))
@[simp, simp ↓] theorem mutP_some {X : Exn → Ro → Prop} {g : List D → List D → Option (List D × D)} {i : Nat} {ms : List (M AV)} {Q : RV → Ro → Prop} {ds : List D} : mutP X g i ms Q r (some ds) ↔ E X (oL ms) r fun as r' => optP (listAt r' i) fun ds => optP (looks2 r' as) fun xs => optP (dataAll xs) fun es => optP (g ds es) fun p => updK r' i p.1 (Q (.val p.2)) := Iff.rfl
@[simp, simp ↓] theorem E_mMut {X : Exn → Ro → Prop} {g : List D → List D → Option (List D × D)} {i : Nat} {ms : List (M AV)} {Q : RV → Ro → Prop} :
    E X (mMut g i ms) r Q ↔ mutP X g i ms Q r (listAt r i) := by
  cases h : listAt r i with
  | none => rw [E_no (by simp only [mMut, h])]; exact Iff.rfl
  | some ds0 =>
    rw [mutP_some]
    have e0 : ∀ f : List AV → M RV, (mMut g i ms r = (oL ms).bind f r) → (E X (mMut g i ms) r Q ↔ E X ((oL ms).bind f) r Q) := fun f e => by
      unfold E
      rw [e]
    refine (e0 _ (by unfold mMut; rw [h]; rfl)).trans ?_
    refine Iff.trans (E_bind (m := oL ms)) ?_
    constructor
    · intro h
      refine h.mono fun as r' h => ?_
      obtain ⟨v, r2, e, q⟩ := h
      cases h2 : listAt r' i with
      | none => simp only [h2] at e; cases e
      | some ds =>
        cases h3 : looks2 r' as with
        | none => simp only [h2, h3] at e; cases e
        | some xs =>
          cases h4 : dataAll xs with
          | none => simp only [h2, h3, h4] at e; cases e
          | some es =>
            cases h5 : g ds es with
            | none => simp only [h2, h3, h4, h5] at e; cases e
            | some p =>
              simp only [h2, h3, h4, h5] at e
              cases e
              exact ⟨ds, rfl, xs, rfl, es, h4, p, h5, q⟩
    · intro h
      refine h.mono fun as r' h => ?_
      obtain ⟨ds, h2, xs, h3, es, h4, p, h5, q⟩ := h
      exact ⟨.ok _, _, by simp only [h2, h3, h4, h5]; rfl, q⟩
def intO : D → Option Int
  | .int n => some n
  | _ => none
@[simp] theorem intO_i {n : Int} : intO (.int n) = some n := rfl
def subP (i : Nat) (d : D) (mi : M AV) (Q : SO → Ro → Prop) (r : Ro) (x : Option (List D)) (t : Tok Q := .tok) (u : Tok mi := .tok) : Prop := match x with
  | none => False
  | some _ => E (fun x => Q (.exc x)) mi r fun a r2 => optP (listAt r2 i) fun ds => optP (((look2 r2 a).bind Rs.data).bind intO) fun n => optP (ixD ds.length n) fun k => updK r2 i (ds.set k d) (Q .nx)
@[simp, simp ↓] theorem subP_some {i : Nat} {d : D} {mi : M AV} {ds : List D} : subP i d mi Q r (some ds) ↔ E (fun x => Q (.exc x)) mi r fun a r2 => optP (listAt r2 i) fun ds => optP (((look2 r2 a).bind Rs.data).bind intO) fun n => optP (ixD ds.length n) fun k => updK r2 i (ds.set k d) (Q .nx) := Iff.rfl
theorem W_congr {s s' : S} (h : s r = s' r) : W s r Q ↔ W s' r Q := by
  unfold W
  rw [h]
def subIn (i : Nat) (d : D) (a : AV) : S := fun r => match listAt r i, (look2 r a).bind Rs.data with
  | some ds, some (.int n) => (ixD ds.length n).map fun k => (.nx, updSl r i (ds.set k d))
  | _, _ => none
def subS (i : Nat) (d : D) (mi : M AV) : S := fun r => match listAt r i with
  | none => none
  | some _ => sEx mi (subIn i d) r
theorem W_subS {i : Nat} {d : D} {mi : M AV} : W (subS i d mi) r Q ↔ subP i d mi Q r (listAt r i) := by
  cases h : listAt r i with
  | none => rw [W_no (by simp only [subS, h])]; exact Iff.rfl
  | some ds0 =>
    refine (W_congr (s' := sEx mi (subIn i d)) (by simp only [subS, h])).trans ?_
    rw [subP_some]
    refine Iff.trans (W_ex (m := mi)) ?_
    constructor
    · intro h
      refine h.mono fun a r2 h => ?_
      obtain ⟨o, r3, e, q⟩ := h
      cases h2 : listAt r2 i with
      | none => simp only [subIn, h2] at e; cases e
      | some ds =>
        cases h3 : (look2 r2 a).bind Rs.data with
        | none => simp only [subIn, h2, h3] at e; cases e
        | some x =>
          cases x with
          | int n =>
            cases h4 : ixD ds.length n with
            | none => simp only [subIn, h2, h3, h4] at e; cases e
            | some k =>
              simp only [subIn, h2, h3, h4] at e
              cases e
              exact ⟨ds, rfl, n, rfl, k, h4, q⟩
          | _ => simp only [subIn, h2, h3] at e; cases e
    · intro h
      refine h.mono fun a r2 h => ?_
      obtain ⟨ds, h4, n, h5, k, h6, q⟩ := h
      cases h3 : (look2 r2 a).bind Rs.data with
      | none => rw [h3] at h5; cases h5
      | some x =>
        cases x with
        | int n => rw [h3] at h5; cases h5; exact ⟨.nx, updSl r2 i (ds.set k d), by simp only [subIn, h4, h3, h6]; rfl, q⟩
        | _ => rw [h3] at h5; cases h5
@[simp, simp ↓] theorem W_sub {i : Nat} {me : M RV} {mi : M AV} : W (sSub i me mi) r Q ↔ E (fun x => Q (.exc x)) me r fun v r1 => optP v.data fun d => subP i d mi Q r1 (listAt r1 i) := by
  refine Iff.trans (W_ex (m := mFz me) (k := fun d => subS i d mi)) ?_
  simp only [E_mFz, W_subS]
def handP (xs : List Rs) (P : EO RV → List Rs → Prop) (i : Nat) (r : Ro) (x : Option Sl) (t : Tok P := .tok) : Prop := match x with
  | some (.own false c) => allFz xs = true ∧ setP r i .non fun r' => P (.ok (.new c)) (outs xs 0 r')
  | _ => False
@[simp, simp ↓] theorem handP_own {xs : List Rs} {P : EO RV → List Rs → Prop} {i : Nat} {c : Ct} : handP xs P i r (some (.own false c)) ↔ allFz xs = true ∧ setP r i .non fun r' => P (.ok (.new c)) (outs xs 0 r') := Iff.rfl
@[simp] theorem allFz_nil : allFz [] = true := rfl
@[simp] theorem allFz_cons {d : D} {xs : List Rs} : allFz (.fz d :: xs) = allFz xs := rfl
def retP (xs : List Rs) (P : EO RV → List Rs → Prop) : SO → Ro → Prop
  | .rets i, r => handP xs P i r r[i]?
  | .ret v, r => P (.ok v) (outs xs 0 r)
  | .nx, r => P (.ok (.val .none)) (outs xs 0 r)
  | .exc x, r => P (.exc x) (outs xs 0 r)
  | _, _ => False
@[simp, simp ↓] theorem retP_ret {xs : List Rs} {P : EO RV → List Rs → Prop} {v : RV} : retP xs P (.ret v) r = P (.ok v) (outs xs 0 r) := rfl
@[simp, simp ↓] theorem retP_rets {xs : List Rs} {P : EO RV → List Rs → Prop} {i : Nat} : retP xs P (.rets i) r = handP xs P i r r[i]? := rfl
@[simp, simp ↓] theorem retP_nx {xs : List Rs} {P : EO RV → List Rs → Prop} : retP xs P .nx r = P (.ok (.val .none)) (outs xs 0 r) := rfl
@[simp, simp ↓] theorem retP_exc {xs : List Rs} {P : EO RV → List Rs → Prop} {x : Exn} : retP xs P (.exc x) r = P (.exc x) (outs xs 0 r) := rfl
theorem oks_def {n N : Nat} {body : S} {xs : List Rs} {P : EO RV → List Rs → Prop} (hn : xs.length = n) (h : W body (xs.map toSl ++ List.replicate (N - n) .non) (retP xs P)) : Oks (defSem n N body) xs P := by
  obtain ⟨o, r, e, q⟩ := h
  unfold Oks defSem
  rw [if_pos hn, e]
  cases o with
  | ret v => exact ⟨_, _, rfl, q⟩
  | rets i =>
    change handP xs P i r r[i]? at q
    show ∃ o ys, handOn xs i r = some (o, ys) ∧ P o ys
    unfold handOn
    cases h : r[i]? with
    | none => rw [h] at q; exact q.elim
    | some x =>
      rw [h] at q
      cases x with
      | own b c =>
        cases b with
        | false => simp only [q.1, if_true]; exact ⟨_, _, rfl, q.2⟩
        | true => exact q.elim
      | _ => exact q.elim
  | nx => exact ⟨_, _, rfl, q⟩
  | exc x => exact ⟨_, _, rfl, q⟩
  | _ => exact q.elim
end
end DL
end

section
namespace DL
open PySem
/-- the product is no monster -/
def SmM (a b : Int) : Prop := a.natAbs.log2 + b.natAbs.log2 < 1000000
instance (a b : Int) : Decidable (SmM a b) := inferInstanceAs (Decidable (_ < _))
theorem log2_small {a : Int} (h : -(2 ^ 200) ≤ a ∧ a ≤ 2 ^ 200) : a.natAbs.log2 ≤ 200 := by
  by_cases h0 : a.natAbs = 0
  · rw [h0]; decide
  · have : a.natAbs < 2 ^ 201 := by omega
    exact Nat.le_of_lt_succ ((Nat.log2_lt h0).mpr this)
theorem smM_of {a b : Int} (ha : -(2 ^ 200) ≤ a ∧ a ≤ 2 ^ 200) (hb : -(2 ^ 200) ≤ b ∧ b ≤ 2 ^ 200) : SmM a b := by
  have h1 := log2_small ha
  have h2 := log2_small hb
  unfold SmM
  omega
def SmD (j : Int) : Prop := j.natAbs.log2 < 9000
instance (a : Int) : Decidable (SmD a) := inferInstanceAs (Decidable (_ < _))
theorem smD_of {b : Int} (hb : -(2 ^ 200) ≤ b ∧ b ≤ 2 ^ 200) : SmD b := by
  have h2 := log2_small hb
  unfold SmD
  omega
section
variable {a b : Int}
@[simp] theorem gAdd_ii : gAdd [.fz (.int a), .fz (.int b)] = some (.val (.int (a + b))) := rfl
@[simp] theorem gSub_ii : gSub [.fz (.int a), .fz (.int b)] = some (.val (.int (a - b))) := rfl
@[simp] theorem gMul_ii : gMul [.fz (.int a), .fz (.int b)] = if SmM a b then some (.val (.int (a * b))) else none := rfl
@[simp] theorem gMod_ii : gMod [.fz (.int a), .fz (.int b)] = if 0 < b then some (.val (.int (a % b))) else none := by
  show Option.map _ (if 0 < b then some _ else none) = _
  split <;> rfl
@[simp] theorem gDiv_ii : gDiv [.fz (.int a), .fz (.int b)] = if 0 < b ∧ SmD b then some (.val (.int (a / b))) else none := by
  show Option.map _ (if 0 < b ∧ SmD b then some _ else none) = _
  split <;> rfl
@[simp] theorem gPow_ii : gPow [.fz (.int a), .fz (.int b)] = if 0 ≤ b ∧ b ≤ 1000000 ∧ a.natAbs < 2 ^ 64 then some (.val (.int (a ^ b.toNat))) else none := by
  show Option.map _ (if 0 ≤ b ∧ b ≤ 1000000 ∧ a.natAbs < 2 ^ 64 then some _ else none) = _
  split <;> rfl
@[simp] theorem gLt_ii : gLt [.fz (.int a), .fz (.int b)] = some (.val (.bool (decide (a < b)))) := rfl
@[simp] theorem gGt_ii : gGt [.fz (.int a), .fz (.int b)] = some (.val (.bool (decide (b < a)))) := rfl
@[simp] theorem gGe_ii : gGe [.fz (.int a), .fz (.int b)] = some (.val (.bool (decide (b ≤ a)))) := rfl
theorem eqv_ii : PyData.eqv (.int a) (.int b) = (a == b) := by unfold PyData.eqv; rfl
theorem okD_i : okD (.int a) = true := by
  unfold okD PyData.canLay0 PyData.depth
  rfl
@[simp] theorem gEq_ii : gEq [.fz (.int a), .fz (.int b)] = some (.val (.bool (decide (a = b)))) := by
  show (if okD (.int a) && okD (.int b) then some (RV.val (.bool (PyData.eqv (.int a) (.int b)))) else none) = _
  rw [okD_i, okD_i, eqv_ii]
  rfl
@[simp] theorem gNe_ii : gNe [.fz (.int a), .fz (.int b)] = some (.val (.bool (!decide (a = b)))) := by
  show (if okD (.int a) && okD (.int b) then some (RV.val (.bool (!PyData.eqv (.int a) (.int b)))) else none) = _
  rw [okD_i, okD_i, eqv_ii]
  rfl
@[simp] theorem gAbs_i : gAbs [.fz (.int a)] = some (.val (.int (if a < 0 then -a else a))) := rfl
@[simp] theorem gMin2_ii : gMin2 [.fz (.int a), .fz (.int b)] = some (.val (.int (if b < a then b else a))) := rfl
end
section
variable {xs ys : List D} {i : Int} {d : D}
@[simp] theorem gLen_t : gLen [.fz (.tuple xs)] = some (.val (.int xs.length)) := rfl
@[simp] theorem gLen_l : gLen [.fz (.list xs)] = some (.val (.int xs.length)) := rfl
@[simp] theorem gLen_o : gLen [.ow (.lst xs)] = some (.val (.int xs.length)) := rfl
@[simp] theorem gLen_dK {kvs : List (Ky × D)} : gLen [.ow (.dK kvs)] = some (.val (.int kvs.length)) := rfl
@[simp] theorem gLen_ll {rows : List (List D)} : gLen [.ow (.ll rows)] = some (.val (.int rows.length)) := rfl
def ixP (xs : List D) (i : Int) : Option D := (ixD xs.length i).bind fun j => xs[j]?
@[simp] theorem gIx_t : gIx [.fz (.tuple xs), .fz (.int i)] = (ixP xs i).map .val := rfl
@[simp] theorem gIx_l : gIx [.fz (.list xs), .fz (.int i)] = (ixP xs i).map .val := rfl
@[simp] theorem gIx_o : gIx [.ow (.lst xs), .fz (.int i)] = (ixP xs i).map .val := rfl
@[simp] theorem ixP_0 : ixP (d :: xs) 0 = some d := by
  unfold ixP ixD
  simp
theorem ixP_nat {k : Nat} {d : D} (h : xs[k]? = some d) : ixP xs (k : Int) = some d := by
  have := (List.getElem?_eq_some_iff.mp h).1
  unfold ixP ixD
  rw [if_pos (by omega), if_pos (by omega)]
  simpa using h
theorem ixP_pos {i : Int} {d : D} (h0 : 0 ≤ i) (h : xs[i.toNat]? = some d) : ixP xs i = some d := by
  have := ixP_nat h
  rwa [Int.toNat_of_nonneg h0] at this
@[simp] theorem ixP_1 {a : D} : ixP (a :: d :: xs) 1 = some d := ixP_nat (k := 1) rfl
@[simp] theorem ixP_2 {a b : D} : ixP (a :: b :: d :: xs) 2 = some d := ixP_nat (k := 2) rfl
@[simp] theorem gTup_0 : gTup [] = some (.val (.tuple [])) := rfl
@[simp] theorem gTup_1 {a : D} : gTup [.fz a] = some (.val (.tuple [a])) := rfl
@[simp] theorem gTup_2 {a b : D} : gTup [.fz a, .fz b] = some (.val (.tuple [a, b])) := rfl
@[simp] theorem gTup_3 {a b c : D} : gTup [.fz a, .fz b, .fz c] = some (.val (.tuple [a, b, c])) := rfl
@[simp] theorem gLst_0 : gLst [] = some (.new (.lst [])) := rfl
@[simp] theorem gLst_1 {a : D} : gLst [.fz a] = some (.new (.lst [a])) := rfl
@[simp] theorem gLst_2 {a b : D} : gLst [.fz a, .fz b] = some (.new (.lst [a, b])) := rfl
@[simp] theorem gLst_3 {a b c : D} : gLst [.fz a, .fz b, .fz c] = some (.new (.lst [a, b, c])) := rfl
@[simp] theorem gTuple_l : gTuple [.fz (.list xs)] = some (.val (.tuple xs)) := rfl
@[simp] theorem gTuple_o : gTuple [.ow (.lst xs)] = some (.val (.tuple xs)) := rfl
@[simp] theorem gTuple_t : gTuple [.fz (.tuple xs)] = some (.val (.tuple xs)) := rfl
@[simp] theorem gList_l : gList [.fz (.list xs)] = some (.new (.lst xs)) := rfl
@[simp] theorem gList_o : gList [.ow (.lst xs)] = some (.new (.lst xs)) := rfl
@[simp] theorem gList_t : gList [.fz (.tuple xs)] = some (.new (.lst xs)) := rfl
@[simp] theorem gAdd_tt : gAdd [.fz (.tuple xs), .fz (.tuple ys)] = if xs.length + ys.length ≤ lineD then some (.val (.tuple (xs ++ ys))) else none := rfl
@[simp] theorem gRng1_i : gRng1 [.fz (.int i)] = if okR i = true then some (rng 0 i) else none := rfl
@[simp] theorem gRng2_i {j : Int} : gRng2 [.fz (.int i), .fz (.int j)] = if (okR i && okR j) = true then some (rng i j) else none := rfl
@[simp] theorem okR_iff : okR i = true ↔ -(2 ^ 62) ≤ i ∧ i < 2 ^ 62 := by simp [okR]
@[simp] theorem dataAll_nil : dataAll [] = some [] := rfl
@[simp] theorem dataAll_cons {as : List Rs} : dataAll (.fz d :: as) = (dataAll as).map (d :: ·) := rfl
@[simp] theorem gAppend_1 : gAppend xs [d] = if xs.length < lineD then some (xs ++ [d], .none) else none := rfl
@[simp] theorem ixD_0 {n : Nat} : ixD n 0 = if 0 < n then some 0 else none := by
  unfold ixD
  by_cases h : 0 < n
  · rw [if_pos (by omega), if_pos (by omega), if_pos h]; rfl
  · rw [if_pos (by omega), if_neg (by omega), if_neg h]
theorem ixD_nat {n k : Nat} (h : k < n) : ixD n (k : Int) = some k := by
  unfold ixD
  rw [if_pos (by omega), if_pos (by omega)]; rfl
@[simp] theorem ixD_1 {n : Nat} : ixD (n + 2) 1 = some 1 := ixD_nat (k := 1) (by omega)
@[simp] theorem ixD_2 {n : Nat} : ixD (n + 3) 2 = some 2 := ixD_nat (k := 2) (by omega)
end
@[simp] theorem ownIx_nil : ownIx [] [] = [] := rfl
@[simp] theorem ownIx_val {d : D} {as : List AV} {x : Rs} {xs : List Rs} : ownIx (.val d :: as) (x :: xs) = ownIx as xs := rfl
@[simp] theorem ownIx_fz {i : Nat} {d : D} {as : List AV} {xs : List Rs} : ownIx (.slot i :: as) (.fz d :: xs) = ownIx as xs := rfl
@[simp] theorem ownIx_ow {i : Nat} {c : Ct} {as : List AV} {xs : List Rs} : ownIx (.slot i :: as) (.ow c :: xs) = i :: ownIx as xs := rfl
@[simp] theorem backSl_ow {b : Bool} {c : Ct} : backSl b (.ow c) = .own b c := rfl
@[simp] theorem backSl_fz {b : Bool} {d : D} : backSl b (.fz d) = .frz b d := rfl
@[simp] theorem toSl_fz {d : D} : toSl (.fz d) = .frz false d := rfl
@[simp] theorem toSl_ow {c : Ct} : toSl (.ow c) = .own true c := rfl
@[simp] theorem outs_nil {k : Nat} {r : Ro} : outs [] k r = [] := rfl
@[simp] theorem outs_fz {d : D} {xs : List Rs} {k : Nat} {r : Ro} : outs (.fz d :: xs) k r = .fz d :: outs xs (k + 1) r := rfl
def outP (c : Ct) : Option Sl → Rs
  | some (.own _ c') => .ow c'
  | some (.frz _ d) => .fz d
  | _ => .ow c
@[simp] theorem outP_own {c c' : Ct} {b : Bool} : outP c (some (.own b c')) = .ow c' := rfl
@[simp] theorem outP_frz {c : Ct} {d : D} {b : Bool} : outP c (some (.frz b d)) = .fz d := rfl
@[simp] theorem outs_ow {c : Ct} {xs : List Rs} {k : Nat} {r : Ro} : outs (.ow c :: xs) k r = outP c r[k]? :: outs xs (k + 1) r := rfl
def alB (i : Nat) : Sl → Bool
  | .al j _ => j != i
  | _ => true
@[simp] theorem noAl_nil {i : Nat} : noAl [] i = true := rfl
@[simp] theorem noAl_cons {i : Nat} {x : Sl} {r : Ro} : noAl (x :: r) i = (alB i x && noAl r i) := by
  unfold noAl
  rw [List.all_cons]
  cases x <;> rfl
@[simp] theorem alB_frz {i : Nat} {b : Bool} {d : D} : alB i (.frz b d) = true := rfl
@[simp] theorem alB_own {i : Nat} {b : Bool} {c : Ct} : alB i (.own b c) = true := rfl
@[simp] theorem alB_non {i : Nat} : alB i .non = true := rfl
@[simp] theorem alB_al {i j k : Nat} : alB i (.al j k) = (j != i) := rfl
/-- a slot that a loop may store to -/
structure Fr (x : Sl) : Prop where
  pin : putSl.pinnedB x = false
  al : ∀ i, alB i x = true
theorem Fr.non : Fr .non := ⟨rfl, fun _ => rfl⟩
theorem Fr.frz {d : D} : Fr (.frz false d) := ⟨rfl, fun _ => rfl⟩
theorem Fr.lst {c : Ct} : Fr (.own false c) := ⟨rfl, fun _ => rfl⟩
end DL
end

section
namespace DL
open PySem
section
variable {X : Exn → Ro → Prop} {r : Ro}
/-- the walk of a comprehension -/
def lcK (vs : List Nat) (set : D → S) (t : M Bool) (e : M RV) (ds acc : List D) (r : Ro) (k : List D → Ro → Prop) : Prop := ∃ zs r', lcM vs set t e ds acc r = some (zs, r') ∧ k zs r'
def wipeP (r : Ro) (k : Ro → Prop) : List Nat → Prop
  | [] => k r
  | v :: vs => wipeP r (fun r' => setP r' v .non k) vs
@[simp, simp ↓] theorem wipeP_nil {k : Ro → Prop} : wipeP r k [] ↔ k r := Iff.rfl
@[simp, simp ↓] theorem wipeP_cons {v : Nat} {vs : List Nat} {k : Ro → Prop} : wipeP r k (v :: vs) ↔ wipeP r (fun r' => setP r' v .non k) vs := Iff.rfl
theorem wipeP_eq {vs : List Nat} : ∀ {k : Ro → Prop}, wipeP r k vs ↔ k (wipeR r vs) := by
  induction vs with
  | nil => intro k; exact Iff.rfl
  | cons v vs ih => intro k; exact ih
@[simp, simp ↓] theorem E_mLc {vs : List Nat} {mi : M (List D)} {set : D → S} {t : M Bool} {e : M RV} {Q : RV → Ro → Prop} : E X (mLc vs mi set t e) r Q ↔ E X mi r fun ds r' => anyPin r' vs = false ∧ wipeP r' (fun r2 => lcK vs set t e ds [] r2 fun zs r3 => Q (.new (.lst zs)) r3) vs := by
  refine Iff.trans (E_bind (m := mi)) ?_
  simp only [wipeP_eq]
  constructor
  · intro h
    refine h.mono fun ds r' h => ?_
    obtain ⟨v, r2, e1, q⟩ := h
    cases h1 : anyPin r' vs with
    | true => simp [h1] at e1
    | false =>
      simp only [h1, Bool.false_eq_true, if_false] at e1
      obtain ⟨⟨a, b⟩, e2, e3⟩ := Option.map_eq_some_iff.mp e1
      cases e3
      exact ⟨rfl, a, b, e2, q⟩
  · intro h
    refine h.mono fun ds r' ⟨h1, a, b, e2, q⟩ => ?_
    exact ⟨.ok (.new (.lst a)), b, by simp only [h1, e2]; rfl, q⟩
/-- the item behind the test -/
def itP (t : M Bool) (e : M RV) (k : Option D → Ro → Prop) : SO → Ro → Prop
  | .nx, r => E (fun _ _ => False) t r fun b r2 => ifP b (E (fun _ _ => False) (mFz e) r2 fun x r3 => k (some x) r3) (k none r2)
  | _, _ => False
@[simp, simp ↓] theorem itP_nx {t : M Bool} {e : M RV} {k : Option D → Ro → Prop} : itP t e k .nx r ↔ E (fun _ _ => False) t r fun b r2 => ifP b (E (fun _ _ => False) (mFz e) r2 fun x r3 => k (some x) r3) (k none r2) := Iff.rfl
/-- a comprehension by what each item gives -/
theorem lcK_of {vs : List Nat} {set : D → S} {t : M Bool} {e : M RV} (f : D → Option D) : ∀ {ds acc : List D} {k : List D → Ro → Prop},
    (∀ d ∈ ds, W (set d) r (itP t e fun x r3 => x = f d ∧ wipeP r3 (fun r4 => r4 = r) vs)) → acc.length + ds.length ≤ lineD → k (acc ++ ds.filterMap f) r → lcK vs set t e ds acc r k := by
  intro ds
  induction ds with
  | nil => intro acc k _ _ hk; exact ⟨_, _, rfl, by simpa using hk⟩
  | cons d ds ih =>
    intro acc k hs hl hk
    obtain ⟨o, r1, e1, h⟩ := hs d (List.mem_cons_self ..)
    have rest := fun d' h' => hs d' (List.mem_cons_of_mem _ h')
    cases o with
    | nx =>
      obtain ⟨b, r2, e2, h⟩ := h
      cases b with
      | exc x => exact h.elim
      | ok b =>
        cases b with
        | true =>
          have h := ifP_true.mp h
          obtain ⟨x, r3, e3, h⟩ := h
          cases x with
          | exc x => exact h.elim
          | ok x =>
            obtain ⟨h1, h2⟩ := h
            rw [wipeP_eq] at h2
            have : (acc ++ [x]).length + ds.length ≤ lineD := by simp at hl ⊢; omega
            obtain ⟨zs, r', e4, q⟩ := ih (acc := acc ++ [x]) rest this (by simpa [List.filterMap_cons, ← h1] using hk)
            refine ⟨zs, r', ?_, q⟩
            unfold lcM
            simp only [e1, e2, e3, h2]
            rw [if_pos (by simp at hl; omega)]
            exact e4
        | false =>
          have h := ifP_false.mp h
          obtain ⟨h1, h2⟩ := h
          rw [wipeP_eq] at h2
          obtain ⟨zs, r', e4, q⟩ := ih (acc := acc) rest (by simp at hl ⊢; omega) (by simpa [List.filterMap_cons, ← h1] using hk)
          refine ⟨zs, r', ?_, q⟩
          unfold lcM
          simp only [e1, e2, h2]
          exact e4
    | _ => exact h.elim
theorem lcK_map {vs : List Nat} {set : D → S} {t : M Bool} {e : M RV} (f : D → D) {ds : List D} {k : List D → Ro → Prop}
    (h : ∀ d ∈ ds, W (set d) r (itP t e fun x r3 => x = some (f d) ∧ wipeP r3 (fun r4 => r4 = r) vs)) (hl : ds.length ≤ lineD) (hk : k (ds.map f) r) : lcK vs set t e ds [] r k :=
  lcK_of (fun d => some (f d)) h (by simpa using hl) (by simpa using hk)
@[simp, simp ↓] theorem E_mBd_none {Q : Option Int → Ro → Prop} : E X (mBd none) r Q ↔ Q none r := E_ret
@[simp, simp ↓] theorem E_mBd_some {m : M AV} {Q : Option Int → Ro → Prop} : E X (mBd (some m)) r Q ↔ E X m r fun a r1 => optP (((look2 r1 a).bind Rs.data).bind intO) fun n => Q (some n) r1 := by
  refine Iff.trans (E_bind (m := m)) ?_
  constructor
  · intro h
    refine h.mono fun a r' h => ?_
    obtain ⟨v, r2, e1, q⟩ := h
    cases h1 : (look2 r' a).bind Rs.data with
    | none => simp only [h1] at e1; cases e1
    | some d => cases d with
      | int n => simp only [h1] at e1; cases e1; exact ⟨n, rfl, q⟩
      | _ => simp only [h1] at e1; cases e1
  · intro h
    refine h.mono fun a r' ⟨n, h1, q⟩ => ?_
    cases h2 : (look2 r' a).bind Rs.data with
    | none => rw [h2] at h1; cases h1
    | some d => cases d with
      | int n => rw [h2] at h1; cases h1; exact ⟨.ok (some n), r', by simp only [h2], q⟩
      | _ => rw [h2] at h1; cases h1
theorem E_fun {α β : Type} {m : M α} {f : α → M β} {g : α → Ro → Option β} (hf : ∀ a r, f a r = (g a r).map fun v => (.ok v, r)) {Q : β → Ro → Prop} : E X (m.bind f) r Q ↔ E X m r fun a r1 => optP (g a r1) fun v => Q v r1 := by
  refine Iff.trans E_bind ?_
  constructor
  · intro h
    refine h.mono fun a r' ⟨v, r2, e1, q⟩ => ?_
    rw [hf] at e1
    cases h1 : g a r' with
    | none => rw [h1] at e1; cases e1
    | some b => rw [h1] at e1; cases e1; exact ⟨b, rfl, q⟩
  · intro h
    refine h.mono fun a r' ⟨v, e1, q⟩ => ?_
    exact ⟨.ok v, r', by rw [hf, e1]; rfl, q⟩
@[simp, simp ↓] theorem E_mSl {m : M AV} {lo hi : Option (M AV)} {Q : RV → Ro → Prop} : E X (mSl m lo hi) r Q ↔ E X m r fun a r1 => E X (mBd lo) r1 fun l r2 => E X (mBd hi) r2 fun h r3 => optP ((look2 r3 a).bind (gCut l h)) fun v => Q v r3 := by
  refine Iff.trans (E_bind (m := m)) ?_
  constructor <;> intro h <;> refine h.mono fun a r1 h => ?_
  · refine (E_bind (m := mBd lo).mp h).mono fun l r2 h => ?_
    exact (E_fun (m := mBd hi) fun _ _ => rfl).mp h
  · refine E_bind (m := mBd lo).mpr (h.mono fun l r2 h => ?_)
    exact (E_fun (m := mBd hi) fun _ _ => rfl).mpr h
@[simp] theorem gCut_t {lo hi : Option Int} {xs : List D} : gCut lo hi (.fz (.tuple xs)) = some (.val (.tuple (cutD xs lo hi))) := rfl
@[simp] theorem gCut_l {lo hi : Option Int} {xs : List D} : gCut lo hi (.fz (.list xs)) = some (.new (.lst (cutD xs lo hi))) := rfl
@[simp] theorem gCut_o {lo hi : Option Int} {xs : List D} : gCut lo hi (.ow (.lst xs)) = some (.new (.lst (cutD xs lo hi))) := rfl
theorem scrL_map (ns : List Int) : scrL (ns.map fun n => (PyData.int n, PyData.none)) = some ns := by
  induction ns with
  | nil => rfl
  | cons n ns ih => simp [scrL, ih]
theorem scrOf_map (ns : List Int) : scrOf ((PyData.none, PyData.none) :: ns.map fun n => (PyData.int n, PyData.none)) = some ns := scrL_map ns
@[simp] theorem gCut_scr {lo hi : Option Int} {ns : List Int} : gCut lo hi (.fz (.dict ((.none, .none) :: ns.map fun n => (PyData.int n, PyData.none)))) = some (.new (.lst ((cutD ns lo hi).map .int))) := by
  show (scrOf ((PyData.none, PyData.none) :: ns.map fun n => (PyData.int n, PyData.none))).map _ = _
  rw [scrOf_map]
  rfl
@[simp, simp ↓] theorem E_mIsi {ts : List Ty} {m : M AV} {Q : RV → Ro → Prop} : E X (mIsi ts m) r Q ↔ E X m r fun a r1 => optP ((look2 r1 a).bind Rs.data) fun d => optP (anyTy ts d) fun b => Q (.val (.bool b)) r1 := by
  refine Iff.trans (E_fun (m := m) (g := fun a r => ((look2 r a).bind Rs.data).bind fun d => (anyTy ts d).map fun b => .val (.bool b)) fun a r => ?_) ?_
  · cases (look2 r a).bind Rs.data with
    | none => rfl
    | some d => cases h : anyTy ts d <;> simp [h]
  · constructor
    · exact fun h => h.mono fun a r1 ⟨v, e, q⟩ => by
        obtain ⟨d, e1, e2⟩ := Option.bind_eq_some_iff.mp e
        obtain ⟨b, e3, rfl⟩ := Option.map_eq_some_iff.mp e2
        exact ⟨d, e1, b, e3, q⟩
    · exact fun h => h.mono fun a r1 ⟨d, e1, b, e3, q⟩ => ⟨.val (.bool b), by rw [e1]; simp [e3], q⟩
def idxP (ds : List D) (o : Option D) : Option RV := match intsD ds, o with
  | some ns, some (.int y) => (ns.findIdx? (· == y)).map fun k => .val (.int (k : Nat))
  | _, _ => none
@[simp] theorem keyAt_def {a : AV} : keyAt r a = ((look2 r a).bind Rs.data).bind kyOf := rfl
@[simp] theorem kyOf_i {n : Int} : kyOf (.int n) = some (.inl n) := rfl
@[simp] theorem kyOf_s {x : Str} : kyOf (.str x) = some (.inr x) := rfl
theorem valD_put {κ : Type} [DecidableEq κ] {kvs : List (κ × D)} {k k' : κ} {v : D} : valD (putD kvs k v) k' = if k' = k then some v else valD kvs k' := by
  unfold putD
  split
  · rename_i h
    obtain ⟨⟨k0, v0⟩, hm, h0⟩ := List.any_eq_true.mp h
    unfold valD
    clear h
    induction kvs with
    | nil => cases hm
    | cons a kvs ih =>
      obtain ⟨ka, va⟩ := a
      rw [List.map_cons]
      by_cases hka : ka = k
      · subst hka
        by_cases hk' : k' = ka
        · subst hk'; simp
        · have hk2 : ¬ ka = k' := fun e => hk' e.symm
          simp only [if_true, List.find?_cons, hk2, decide_false, hk', if_false]
          clear ih hm
          induction kvs with
          | nil => rfl
          | cons b kvs ih2 =>
            obtain ⟨kb, vb⟩ := b
            rw [List.map_cons]
            by_cases hkb : kb = ka
            · subst hkb
              simp only [if_true, List.find?_cons, hk2, decide_false]
              exact ih2
            · simp only [hkb, if_false, List.find?_cons]
              by_cases hkb' : kb = k'
              · simp [hkb']
              · simp only [hkb', decide_false]; exact ih2
      · rcases List.mem_cons.mp hm with e | hm
        · cases e; simp at h0; exact absurd h0 hka
        · have := ih hm
          simp only [hka, if_false, List.find?_cons]
          by_cases hk' : ka = k'
          · have : ¬ k' = k := fun e => hka (hk'.trans e)
            simp [hk', this]
          · simp only [hk', decide_false]; exact this
  · rename_i h
    unfold valD
    rw [List.find?_append]
    by_cases hk : k' = k
    · subst hk
      have : kvs.find? (fun kv => decide (kv.1 = k')) = none := List.find?_eq_none.mpr fun x hx hd => h (List.any_eq_true.mpr ⟨x, hx, hd⟩)
      rw [this]
      simp
    · have : ¬ k = k' := fun e => hk e.symm
      cases kvs.find? (fun kv => decide (kv.1 = k')) <;> simp [hk, this]
theorem putD_len {κ : Type} [DecidableEq κ] {kvs : List (κ × D)} {k : κ} {v : D} : (putD kvs k v).length ≤ kvs.length + 1 := by
  unfold putD
  split <;> simp
theorem sIxD_nat {n d k : Nat} : sIxD n d (some (k : Int)) = min k n := by
  unfold sIxD
  dsimp only
  rw [if_neg (by omega)]
  simp
theorem cutD_take {α : Type} {xs : List α} {n : Nat} : cutD xs none (some (n : Int)) = xs.take n := by
  unfold cutD
  rw [sIxD_nat]
  show List.take (min n xs.length - 0) (List.drop 0 xs) = _
  rw [Nat.sub_zero, List.drop_zero]
  by_cases h : n ≤ xs.length
  · rw [Nat.min_eq_left h]
  · rw [Nat.min_eq_right (by omega), List.take_of_length_le (by omega), List.take_of_length_le (by omega)]
theorem cutD_drop {α : Type} {xs : List α} {n : Nat} : cutD xs (some (n : Int)) none = xs.drop n := by
  unfold cutD
  rw [sIxD_nat]
  show List.take (xs.length - _) _ = _
  by_cases h : n ≤ xs.length
  · rw [Nat.min_eq_left h, List.take_of_length_le (by simp)]
  · rw [Nat.min_eq_right (by omega), List.drop_eq_nil_of_le (by omega), List.drop_eq_nil_of_le (by omega)]; simp
@[simp] theorem cutD_take1 {α : Type} {xs : List α} : cutD xs none (some 1) = xs.take 1 := cutD_take (n := 1)
@[simp] theorem cutD_drop1 {α : Type} {xs : List α} : cutD xs (some 1) none = xs.drop 1 := cutD_drop (n := 1)
@[simp] theorem intsD_map {ns : List Int} : intsD (ns.map .int) = some ns := by
  induction ns with
  | nil => rfl
  | cons n ns ih => simp [intsD, ih]
@[simp] theorem idxP_i {ns : List Int} {y : Int} : idxP (ns.map .int) (some (.int y)) = (ns.findIdx? (· == y)).map fun k => .val (.int (k : Nat)) := by
  unfold idxP
  rw [intsD_map]
end
end DL
end

section
namespace DL
open PySem
section
variable {X : Exn → Ro → Prop} {r : Ro}
end
section
variable {xs ys ds : List D} {d e : D} {i : Int}
@[simp] theorem gAdd_ll : gAdd [.fz (.list xs), .fz (.list ys)] = if xs.length + ys.length ≤ lineD then some (.new (.lst (xs ++ ys))) else none := rfl
@[simp] theorem gSort_l : gSort [.fz (.list ds)] = if srtOk ds then some (.new (.lst (srtD ds))) else none := rfl
@[simp] theorem gSort_t : gSort [.fz (.tuple ds)] = if srtOk ds then some (.new (.lst (srtD ds))) else none := rfl
@[simp] theorem gSort_o : gSort [.ow (.lst ds)] = if srtOk ds then some (.new (.lst (srtD ds))) else none := rfl
@[simp] theorem gPop_0 : gPop ds [] = ds[ds.length - 1]?.map fun d => (ds.dropLast, d) := rfl
@[simp] theorem gPop_1 : gPop ds [.int i] = if -(2 ^ 63) ≤ i ∧ i < 2 ^ 63 then (ixD ds.length i).bind fun k => ds[k]?.map fun d => (ds.eraseIdx k, d) else none := rfl
end
/-- data's looks -/
@[simp] theorem okE_i {i : Int} : okE (.int i) = true := by unfold okE PyData.canLay0 PyData.depth; rfl
@[simp] theorem okE_b {i : Bool} : okE (.bool i) = true := by unfold okE PyData.canLay0 PyData.depth; rfl
@[simp] theorem okE_n : okE .none = true := by unfold okE PyData.canLay0 PyData.depth; rfl
theorem lay_ints (ns : List Int) : PyData.canLayAll0 (ns.map .int) = true := by
  induction ns with
  | nil => simp [PyData.canLayAll0]
  | cons n ns ih => simp [PyData.canLayAll0, PyData.canLay0, ih]
theorem dep_ints (ns : List Int) : PyData.depthAll (ns.map .int) = 0 := W.depth_ints ns
@[simp] theorem okE_ti {ns : List Int} : okE (.tuple (ns.map .int)) = true := by
  unfold okE PyData.canLay0 PyData.depth
  rw [lay_ints, dep_ints]
  rfl
@[simp] theorem okE_li {ns : List Int} : okE (.list (ns.map .int)) = true := by
  unfold okE PyData.canLay0 PyData.depth
  rw [lay_ints, dep_ints]
  rfl
@[simp] theorem all_okE_ints {ns : List Int} : (ns.map PyData.int).all okE = true := by
  rw [List.all_map]
  exact List.all_eq_true.mpr fun n _ => okE_i
theorem eqv_ints : ∀ (ns ms : List Int), PyData.eqvAll (ns.map .int) (ms.map .int) = decide (ns = ms)
  | [], [] => by simp [PyData.eqvAll]
  | [], _ :: _ => by simp [PyData.eqvAll]
  | _ :: _, [] => by simp [PyData.eqvAll]
  | n :: ns, m :: ms => by
    simp only [List.map_cons, PyData.eqvAll, eqv_ints ns ms, eqv_ii]
    by_cases h : n = m <;> simp [h]
@[simp] theorem eqv_ti {ns ms : List Int} : PyData.eqv (.tuple (ns.map .int)) (.tuple (ms.map .int)) = decide (ns = ms) := by
  unfold PyData.eqv
  exact eqv_ints ns ms
@[simp] theorem eqv_int2 {a b : Int} : PyData.eqv (.int a) (.int b) = decide (a = b) := by
  rw [eqv_ii]
  rfl
end DL
end

section
namespace DL
open PySem
theorem whN_up {t : M Bool} {body : S} : ∀ {n m : Nat} {r : Ro} {z : SO × Ro}, n ≤ m → whN t body n r = some z → whN t body m r = some z
  | 0, _, _, _, _, e => by cases e
  | n + 1, 0, _, _, h, _ => by omega
  | n + 1, m + 1, r, z, h, e => by
    unfold whN at e ⊢
    cases q : t r with
    | none => rw [q] at e; cases e
    | some w =>
      obtain ⟨o, r1⟩ := w
      rw [q] at e
      cases o with
      | exc x => exact e
      | ok b =>
        cases b with
        | false => exact e
        | true =>
          simp only at e ⊢
          cases q2 : body r1 with
          | none => rw [q2] at e; cases e
          | some w2 =>
            obtain ⟨o2, r2⟩ := w2
            rw [q2] at e
            cases o2 with
            | nx => exact whN_up (by omega) e
            | cnt => exact whN_up (by omega) e
            | _ => exact e
theorem sWhile_of {t : M Bool} {body : S} {n : Nat} {r : Ro} {z : SO × Ro} (h : whN t body n r = some z) : sWhile t body r = some z := by
  unfold sWhile
  have ex : ∃ n, whN t body n r ≠ none := ⟨n, by rw [h]; simp⟩
  rw [dif_pos ex]
  have hc := Classical.choose_spec ex
  cases q : whN t body (Classical.choose ex) r with
  | none => exact absurd q hc
  | some w =>
    rcases Nat.le_total n (Classical.choose ex) with hle | hle
    · rw [whN_up hle h] at q; exact q.symm
    · rw [whN_up hle q] at h; exact h
/-- a while loop by an invariant: I k ahead of the k-th test, at most B turns -/
theorem while_inv {t : M Bool} {body : S} {Q : SO → Ro → Prop} (I : Nat → Ro → Prop) (B : Nat) {r : Ro} (h0 : I 0 r)
    (step : ∀ k r, I k r → E (fun x => Q (.exc x)) t r fun b r1 => ifP b (k < B ∧ W body r1 (loopP (I (k + 1)) Q)) (Q .nx r1)) : W (sWhile t body) r Q := by
  have go : ∀ (d k : Nat) (r : Ro), B - k ≤ d → I k r → ∃ n o r', whN t body n r = some (o, r') ∧ Q o r' := by
    intro d
    induction d with
    | zero =>
      intro k r hd hI
      obtain ⟨o, r1, e1, q⟩ := step k r hI
      cases o with
      | exc x => exact ⟨1, .exc x, r1, by unfold whN; simp only [e1], q⟩
      | ok b =>
        cases b with
        | false => exact ⟨1, .nx, r1, by unfold whN; simp only [e1], ifP_false.mp q⟩
        | true =>
          have := (ifP_true.mp q).1
          omega
    | succ d ih =>
      intro k r hd hI
      obtain ⟨o, r1, e1, q⟩ := step k r hI
      cases o with
      | exc x => exact ⟨1, .exc x, r1, by unfold whN; simp only [e1], q⟩
      | ok b =>
        cases b with
        | false => exact ⟨1, .nx, r1, by unfold whN; simp only [e1], ifP_false.mp q⟩
        | true =>
          obtain ⟨hk, o2, r2, e2, q2⟩ := ifP_true.mp q
          cases o2 with
          | nx =>
            obtain ⟨n, o, r', e3, q3⟩ := ih (k + 1) r2 (by omega) q2
            exact ⟨n + 1, o, r', by unfold whN; simp only [e1, e2]; exact e3, q3⟩
          | cnt =>
            obtain ⟨n, o, r', e3, q3⟩ := ih (k + 1) r2 (by omega) q2
            exact ⟨n + 1, o, r', by unfold whN; simp only [e1, e2]; exact e3, q3⟩
          | brk => exact ⟨1, .nx, r2, by unfold whN; simp only [e1, e2], q2⟩
          | ret v => exact ⟨1, .ret v, r2, by unfold whN; simp only [e1, e2], q2⟩
          | rets i => exact ⟨1, .rets i, r2, by unfold whN; simp only [e1, e2], q2⟩
          | exc x => exact ⟨1, .exc x, r2, by unfold whN; simp only [e1, e2], q2⟩
  obtain ⟨n, o, r', e, q⟩ := go (B - 0) 0 r (Nat.le_refl _) h0
  exact ⟨o, r', sWhile_of e, q⟩
end DL
end

section
namespace DL
open PySem
section
variable {X : Exn → Ro → Prop} {r : Ro}
end
end DL
end

section
namespace DL
open PySem
section
variable {X : Exn → Ro → Prop} {r : Ro}
end
end DL
end

section
namespace DL
open PySem
section
variable {X : Exn → Ro → Prop} {r : Ro}
end
end DL
end

section
namespace DL
open PySem
section
variable {X : Exn → Ro → Prop} {r : Ro}
end
end DL
end

section
namespace DL
open PySem
section
variable {X : Exn → Ro → Prop} {r : Ro}
end
end DL
end

section
namespace DL
open PySem
section
variable {r : Ro}
end
end DL
end

section
namespace DL
open PySem
section
variable {X : Exn → Ro → Prop} {r : Ro}
end
end DL
end

section
namespace DL
open PySem
section
variable {X : Exn → Ro → Prop} {r : Ro}
end
end DL
end

section
namespace DL
open PySem
end DL
end

section
namespace DL
open PySem
end DL
end

section
namespace DL
open PySem
section
variable {X : Exn → Ro → Prop} {r : Ro}
end
end DL
end

section
namespace DL
open PySem
section
variable {X : Exn → Ro → Prop} {r : Ro}
theorem E_fIndexO {i : Nat} {b : AV} {Q : RV → Ro → Prop} : E X (fIndexO i b) r Q ↔ optP (listAt r i) fun ds => optP (idxP ds ((look2 r b).bind Rs.data)) fun v => Q v r := by
  constructor
  · rintro ⟨o, r2, e, q⟩
    unfold fIndexO at e
    split at e
    · rename_i ns y h1 h2
      obtain ⟨ds, h3, h4⟩ := Option.bind_eq_some_iff.mp h1
      cases hk : ns.findIdx? (· == y) with
      | none => rw [hk] at e; cases e
      | some k =>
        rw [hk] at e
        cases e
        refine ⟨ds, h3, .val (.int (k : Nat)), ?_, q⟩
        unfold idxP
        rw [h4, h2]
        simp only
        rw [hk]
        rfl
    · cases e
  · rintro ⟨ds, h3, v, h4, q⟩
    refine ⟨.ok v, r, ?_, q⟩
    unfold idxP at h4
    split at h4
    · rename_i ns y h1 h2
      unfold fIndexO
      rw [h3]
      simp only [Option.bind_some]
      rw [h1, h2]
      simp only
      cases hk : ns.findIdx? (· == y) with
      | none => rw [hk] at h4; cases h4
      | some k => rw [hk] at h4; cases h4; rfl
    · cases h4
@[simp, simp ↓] theorem E_mIndexO {i : Nat} {me : M AV} {Q : RV → Ro → Prop} : E X (mIndexO i me) r Q ↔ optP (listAt r i) fun _ => E X me r fun b r2 => optP (listAt r2 i) fun ds => optP (idxP ds ((look2 r2 b).bind Rs.data)) fun v => Q v r2 := by
  constructor
  · rintro ⟨o, r2, e, q⟩
    unfold mIndexO at e
    split at e
    · cases e
    · rename_i ds q1
      have h : E X (me.bind (fIndexO i)) r Q := ⟨o, r2, e, q⟩
      exact ⟨ds, q1, (E_bind.mp h).mono fun b r2 h => E_fIndexO.mp h⟩
  · rintro ⟨ds, q1, h⟩
    have h : E X (me.bind (fIndexO i)) r Q := E_bind.mpr (E.mono h fun b r2 h => E_fIndexO.mpr h)
    obtain ⟨o, r2, e, q⟩ := h
    refine ⟨o, r2, ?_, q⟩
    unfold mIndexO
    rw [q1]
    exact e
end
end DL
end

section
namespace DL
open PySem
section
variable {r : Ro}
@[simp, simp ↓] theorem W_sRaise {c : String} {Q : SO → Ro → Prop} : W (sRaise c) r Q ↔ Q (.exc ⟨c, none⟩) r :=
  ⟨fun ⟨o, r2, e, q⟩ => (by cases e; exact q), fun q => ⟨_, _, rfl, q⟩⟩
section
variable {L : List String} {i j : Nat} {ms : String → M RV} {Q : SO → Ro → Prop} {r1 : Ro}
end
end
end DL
end

section
namespace DL
open PySem
section
variable {r : Ro}
def dvO : List Rs → Option (Int × Int)
  | [.fz (.int i), .fz (.int j)] => if 0 < j ∧ i.natAbs.log2 < 3999 then some (i, j) else none
  | _ => none
@[simp] theorem dvO_ii {i j : Int} : dvO [.fz (.int i), .fz (.int j)] = if 0 < j ∧ i.natAbs.log2 < 3999 then some (i, j) else none := rfl
@[simp, simp ↓] theorem W_sDvm {ma mb : M AV} {set : D → S} {Q : SO → Ro → Prop} : W (sDvm ma mb set) r Q ↔ E (fun x => Q (.exc x)) (oL [ma, mb]) r fun as r' => optP (looks2 r' as) fun xs => optP (dvO xs) fun p => W (set (.tuple [.int (p.1 / p.2), .int (p.1 % p.2)])) r' Q := by
  unfold sDvm
  refine W_ex.trans ?_
  have key : ∀ as r', W (dvF set as) r' Q ↔ optP (looks2 r' as) fun xs => optP (dvO xs) fun p => W (set (.tuple [.int (p.1 / p.2), .int (p.1 % p.2)])) r' Q := fun as r' => by
    constructor
    · rintro ⟨o, r2, e, q⟩
      unfold dvF at e
      split at e
      · rename_i i j hl
        split at e
        · rename_i hc
          refine ⟨_, hl, (i, j), ?_, o, r2, e, q⟩
          rw [dvO_ii, if_pos hc]
        · cases e
      · cases e
    · rintro ⟨xs, h1, p, h2, o, r2, e, q⟩
      refine ⟨o, r2, ?_, q⟩
      unfold dvO at h2
      split at h2
      · rename_i i j
        split at h2
        · rename_i hc
          cases h2
          unfold dvF
          rw [h1]
          simp only
          rw [if_pos hc]
          exact e
        · cases h2
      · cases h2
  constructor <;> exact fun h => h.mono fun as r' q => by
    first | exact (key as r').mp q | exact (key as r').mpr q
@[simp] theorem gRevR_i {n : Int} : gRevR [.fz (.int n)] = if okR n then some (rngD ((n.toNat : Int) - 1) n.toNat) else none := rfl
@[simp] theorem gTupRev_l {ds : List D} : gTupRev [.fz (.list ds)] = if ds.length ≤ lineD then some (.val (.tuple ds.reverse)) else none := rfl
@[simp] theorem gTupRev_o {ds : List D} : gTupRev [.ow (.lst ds)] = if ds.length ≤ lineD then some (.val (.tuple ds.reverse)) else none := rfl
theorem rngD_get {hi : Int} {n k : Nat} {d : D} (h : (rngD hi n)[k]? = some d) : d = .int (hi - k) ∧ k < n := by
  unfold rngD at h
  rw [List.getElem?_map] at h
  obtain ⟨x, h1, rfl⟩ := Option.map_eq_some_iff.mp h
  obtain ⟨h2, h3⟩ := List.getElem?_eq_some_iff.mp h1
  rw [List.getElem_range] at h3
  subst h3
  exact ⟨rfl, by simpa using h2⟩
@[simp] theorem rngD_len {hi : Int} {n : Nat} : (rngD hi n).length = n := by simp [rngD]
end
end DL
end

section
namespace DL
open PySem
end DL
end

section
namespace DL
open PySem
end DL
end

section
namespace DL
open PySem
section
variable {X : Exn → Ro → Prop} {r : Ro}
end
end DL
end

section
namespace DL
open PySem
section
variable {X : Exn → Ro → Prop} {r : Ro}
@[simp, simp ↓] theorem putP_dT {i : Nat} {ds : List (List Ky × D)} {x : Sl} {Q : SO → Ro → Prop} : putP i (.new (.dT ds)) r Q (some x) ↔ putSl.pinnedB x = false ∧ setP r i (.own false (.dT ds)) (Q .nx) := Iff.rfl
end
end DL
end

section
namespace DL
open PySem
section
variable {X : Exn → Ro → Prop} {r : Ro}
end
end DL
end

section
namespace DL
open PySem
section
variable {X : Exn → Ro → Prop} {r : Ro}
theorem E_fDisp {a : AV} {d : D} {Q : RV → Ro → Prop} : E X (fDisp a d) r Q ↔ optP (keyAt r a) fun k => Q (.new (.dK [(k, d)])) r := by
  constructor
  · rintro ⟨o, r2, e, q⟩
    unfold fDisp at e
    split at e
    · rename_i k qk
      cases e
      exact ⟨k, qk, q⟩
    · cases e
  · rintro ⟨k, qk, q⟩
    refine ⟨.ok _, r, ?_, q⟩
    unfold fDisp
    rw [qk]
@[simp, simp ↓] theorem E_mDisp1 {mk : M AV} {mv : M RV} {Q : RV → Ro → Prop} : E X (mDisp1 mk mv) r Q ↔ E X mk r fun a r1 => E X mv r1 fun v r2 => optP v.data fun d => optP (keyAt r2 a) fun k => Q (.new (.dK [(k, d)])) r2 := by
  unfold mDisp1
  rw [E_bind]
  constructor
  · exact fun h => h.mono fun a r1 h => by
      rw [E_bind, E_mFz] at h
      exact h.mono fun v r2 ⟨d, e, q⟩ => ⟨d, e, E_fDisp.mp q⟩
  · exact fun h => h.mono fun a r1 h => by
      rw [E_bind, E_mFz]
      exact h.mono fun v r2 ⟨d, e, q⟩ => ⟨d, e, E_fDisp.mpr q⟩
end
end DL
end

section
namespace DL
open PySem
end DL
end

section
namespace DL
open PySem
end DL
end

section
namespace DL
open PySem
@[simp, simp ↓] theorem E_mE0 {X : Exn → Ro → Prop} {r : Ro} {Q : RV → Ro → Prop} : E X mE0 r Q ↔ Q (.val (.dict [])) r := E_ret
end DL
end

section
namespace DL
open PySem
end DL
end

section
namespace DL
open PySem
theorem gStrI_i {i : Int} (h : i.natAbs.log2 < 1920) : gStrI [.fz (.int i)] = some (.val (.str (Str.ofString (toString i)))) := by
  unfold gStrI
  simp only [if_pos h]
end DL
end

section
namespace DL
open PySem
end DL
end

section
namespace DL
open PySem
section
variable {X : Exn → Ro → Prop} {r : Ro}
end
end DL
end

section
namespace DL
open PySem
section
variable {L : List String} {i : Nat} {ms : String → S} {Q : SO → Ro → Prop} {r r1 : Ro}
variable {X : Exn → Ro → Prop} {tbl : List (Str × Sem)} {mm : List (M AV)} {K : RV → Ro → Prop}
end
end DL
end

section
namespace DL
open PySem
@[simp, simp ↓] theorem E_mDii {i j : Int} {X : Exn → Ro → Prop} {r : Ro} {Q : RV → Ro → Prop} : E X (mDii i j) r Q ↔ Q (.val (.dict [(.int i, .int j)])) r := E_ret
end DL
end

section
namespace Lw
open PySem DL
/-- place_of(web, end): slots 0:web 1:end -/
noncomputable def b_place_of_8c4c : S :=
    (sRet (mOp gIx [(oE (mOp gIx [(oE (mOp gIx [(oS 0), (oE (mC (.int 1)))])), (oE (mOp gDiv [(oS 1), (oE (mC (.int 2)))]))])), (oE (mOp gMod [(oS 1), (oE (mC (.int 2)))]))]))
noncomputable def sem_place_of_8c4c : Sem := defSem 2 2 b_place_of_8c4c
/-- _law_pen(_law_script): slots 0:_law_script 1:_law_cell -/
noncomputable def b_Lpen_3d2f : S :=
    (sRet (mOp gLst [(oE (mLc [1] (mRow (mSl (oS 0) none (some (oE (mC (.int 63)))))) (setN 1) mYes (mRd 1))), (oE (mC (.int 0))), (oE (mC (.int 0)))]))
noncomputable def sem_Lpen_3d2f : Sem := defSem 1 2 b_Lpen_3d2f
/-- _law_draw(_law_pen_here, _law_many): slots 0:_law_pen_here 1:_law_many 2:_law_at 3:_law_cell 4:_law_number 5:_law_digit -/
noncomputable def b_Ldraw_de5b : S :=
    (sSeq (sIf (mTst (mOp gGt [(oE (mOp gIx [(oS 0), (oE (mC (.int 2)))])), (oE (mC (.int 0)))])) (sSeq (sSet 5 (mOp gMod [(oE (mOp gIx [(oS 0), (oE (mC (.int 2)))])), (oS 1)]))
    (sSeq (sSub 0 (mOp gDiv [(oE (mOp gIx [(oS 0), (oE (mC (.int 2)))])), (oS 1)]) (oE (mC (.int 2))))
    (sRet (mRd 5)))) sNx)
    (sSeq (sSet 2 (mOp gIx [(oS 0), (oE (mC (.int 1)))]))
    (sSeq (sSub 0 (mOp gAdd [(oS 2), (oE (mC (.int 1)))]) (oE (mC (.int 1))))
    (sSeq (sSet 3 (mC (.int 11)))
    (sSeq (sIf (mTst (mOp gGt [(oE (mOp gLen [(oE (mOp gIx [(oS 0), (oE (mC (.int 0)))]))])), (oE (mC (.int 0)))])) (sSet 3 (mOp gIx [(oE (mOp gIx [(oS 0), (oE (mC (.int 0)))])), (oE (mOp gMod [(oS 2), (oE (mOp gLen [(oE (mOp gIx [(oS 0), (oE (mC (.int 0)))]))]))]))])) sNx)
    (sSeq (sIf (mAnd (mTst (mOp gLt [(oS 2), (oE (mOp gLen [(oE (mOp gIx [(oS 0), (oE (mC (.int 0)))]))]))])) (mTst (mOp gGe [(oE (mOp gAbs [(oS 3)])), (oE (mOp gPow [(oE (mC (.int 10))), (oE (mC (.int 18)))]))]))) (sSeq (sSub 0 (mOp gDiv [(oE (mOp gAbs [(oS 3)])), (oS 1)]) (oE (mC (.int 2))))
    (sRet (mOp gMod [(oE (mOp gAbs [(oS 3)])), (oS 1)]))) sNx)
    (sSeq (sSet 4 (mOp gMod [(oE (mOp gMul [(oE (mOp gAdd [(oE (mOp gAdd [(oE (mOp gMod [(oS 3), (oE (mC (.int 2147483647)))])), (oE (mOp gMul [(oE (mC (.int 69621))), (oS 2)]))])), (oE (mC (.int 13)))])), (oE (mC (.int 48271)))])), (oE (mC (.int 2147483629)))]))
    (sSeq (sSet 4 (mOp gMod [(oE (mOp gAdd [(oE (mOp gAdd [(oE (mOp gMul [(oS 4), (oS 4)])), (oE (mOp gMul [(oE (mC (.int 40692))), (oS 4)]))])), (oS 2)])), (oE (mC (.int 2147483587)))]))
    (sRet (mOp gMod [(oE (mOp gDiv [(oE (mOp gMod [(oE (mOp gMul [(oS 4), (oE (mC (.int 16807)))])), (oE (mC (.int 2147483563)))])), (oE (mC (.int 32)))])), (oS 1)]))))))))))
noncomputable def sem_Ldraw_de5b : Sem := defSem 2 6 b_Ldraw_de5b
/-- _law_web(_law_pen_here, _law_places, _law_ties): slots 0:_law_pen_here 1:_law_places 2:_law_ties 3:_law_many 4:_law_way 5:_law_count 6:_law_found 7:_law_k 8:_law_a 9:_law_b -/
noncomputable def b_Lweb_0350 : S :=
    (sSeq (sSet 3 (mOp gAdd [(oE (mC (.int 1))), (oE (mCall sem_Ldraw_de5b [(oS 0), (oS 1)]))]))
    (sSeq (sSet 4 (mCall sem_Ldraw_de5b [(oS 0), (oE (mC (.int 6)))]))
    (sSeq (sSet 5 (mCall sem_Ldraw_de5b [(oS 0), (oE (mOp gAdd [(oS 2), (oE (mC (.int 1)))]))]))
    (sSeq (sIf (mTst (mOp gEq [(oS 4), (oE (mC (.int 5)))])) (sSeq (sSet 3 (mRd 1))
    (sSet 5 (mRd 2))) sNx)
    (sSeq (sSet 6 (mOp gLst []))
    (sSeq (sFor (mOpL gRng1 [(oS 5)]) (setN 7) (sSeq (sPar 8 9 (mCall sem_Ldraw_de5b [(oS 0), (oS 3)]) (mCall sem_Ldraw_de5b [(oS 0), (oS 3)]))
    (sSeq (sIf (mTst (mOp gEq [(oS 4), (oE (mC (.int 1)))])) (sPar 8 9 (mOp gMod [(oS 7), (oS 3)]) (mOp gMod [(oE (mOp gAdd [(oS 7), (oE (mC (.int 1)))])), (oS 3)])) sNx)
    (sSeq (sIf (mTst (mOp gEq [(oS 4), (oE (mC (.int 2)))])) (sSet 8 (mC (.int 0))) sNx)
    (sSeq (sIf (mTst (mOp gEq [(oS 4), (oE (mC (.int 3)))])) (sSet 9 (mOp gAdd [(oE (mOp gMod [(oS 8), (oE (mC (.int 2)))])), (oE (mOp gMul [(oE (mOp gDiv [(oS 9), (oE (mC (.int 2)))])), (oE (mC (.int 2)))]))])) sNx)
    (sSeq (sIf (mAnd (mTst (mOp gEq [(oS 4), (oE (mC (.int 4)))])) (mTst (mOp gEq [(oE (mOp gMod [(oS 9), (oE (mC (.int 2)))])), (oE (mC (.int 0)))]))) (sSet 9 (mRd 8)) sNx)
    (sDrop (mMut gAppend 6 [(oE (mOp gTup [(oE (mRd 8)), (oE (mOp gMin2 [(oS 9), (oE (mOp gSub [(oS 3), (oE (mC (.int 1)))]))]))]))]))))))))
    (sRet (mOp gTup [(oE (mRd 3)), (oE (mOp gTuple [(oS 6)]))]))))))))
noncomputable def sem_Lweb_0350 : Sem := defSem 3 10 b_Lweb_0350
/-- ends_of(web): slots 0:web -/
noncomputable def b_ends_of_168e : S :=
    (sRet (mOp gMul [(oE (mC (.int 2))), (oE (mOp gLen [(oE (mOp gIx [(oS 0), (oE (mC (.int 1)))]))]))]))
noncomputable def sem_ends_of_168e : Sem := defSem 1 1 b_ends_of_168e
/-- ends_at(web, place): slots 0:web 1:place 2:end -/
noncomputable def b_ends_at_2b9c : S :=
    (sRet (mLc [2] (mOpL gRng1 [(oE (mCall sem_ends_of_168e [(oS 0)]))]) (setN 2) (mTst (mOp gEq [(oE (mCall sem_place_of_8c4c [(oS 0), (oS 2)])), (oS 1)])) (mRd 2)))
noncomputable def sem_ends_at_2b9c : Sem := defSem 2 3 b_ends_at_2b9c
/-- is_whole(thing): slots 0:thing -/
noncomputable def b_is_whole_637d : S :=
    (sRet (mAndV (mIsi [.int] (oS 0)) (mNotV (mIsi [.bool] (oS 0)))))
noncomputable def sem_is_whole_637d : Sem := defSem 1 1 b_is_whole_637d
end Lw
end

section
namespace Lw
open PySem DL
end Lw
end

section
namespace Lw
open PySem DL
/-- rows_many(ends): slots 0:ends 1:many 2:k -/
noncomputable def b_rows_many_c3e5 : S :=
    (sSeq (sSet 1 (mC (.int 1)))
    (sSeq (sFor (mOpL gRng2 [(oE (mC (.int 2))), (oS 0)]) (setN 2) (sSet 1 (mOp gMul [(oS 1), (oS 2)])))
    (sRet (mRd 1))))
noncomputable def sem_rows_many_c3e5 : Sem := defSem 1 3 b_rows_many_c3e5
/-- orders_many(web): slots 0:web 1:many 2:place -/
noncomputable def b_orders_many_0e37 : S :=
    (sSeq (sSet 1 (mC (.int 1)))
    (sSeq (sFor (mOpL gRng1 [(oE (mOp gIx [(oS 0), (oE (mC (.int 0)))]))]) (setN 2) (sSet 1 (mOp gMul [(oS 1), (oE (mCall sem_rows_many_c3e5 [(oE (mOp gLen [(oE (mCall sem_ends_at_2b9c [(oS 0), (oS 2)]))]))]))])))
    (sRet (mRd 1))))
noncomputable def sem_orders_many_0e37 : Sem := defSem 1 3 b_orders_many_0e37
/-- row_at(ends, number): slots 0:ends 1:number 2:left 3:row 4:ways -/
noncomputable def b_row_at_886b : S :=
    (sSeq (sSet 2 (mOp gList [(oS 0)]))
    (sSeq (sSet 3 (mSl (oS 2) none (some (oE (mC (.int 1))))))
    (sSeq (sSet 2 (mSl (oS 2) (some (oE (mC (.int 1)))) none))
    (sSeq (sWhile (mTst (mOp gGt [(oE (mOp gLen [(oS 2)])), (oE (mC (.int 0)))])) (sSeq (sSet 4 (mCall sem_rows_many_c3e5 [(oE (mOp gLen [(oS 2)]))]))
    (sSeq (sDrop (mMut gAppend 3 [(oE (mMut gPop 2 [(oE (mOp gDiv [(oS 1), (oS 4)]))]))]))
    (sSet 1 (mOp gMod [(oS 1), (oS 4)])))))
    (sRet (mOp gTuple [(oS 3)]))))))
noncomputable def sem_row_at_886b : Sem := defSem 2 5 b_row_at_886b
/-- row_number(row): slots 0:row 1:number 2:left 3:end 4:at -/
noncomputable def b_row_number_7a06 : S :=
    (sSeq (sSet 1 (mC (.int 0)))
    (sSeq (sSet 2 (mSl (oE (mOp gSort [(oS 0)])) (some (oE (mC (.int 1)))) none))
    (sSeq (sFor (mRow (mSl (oS 0) (some (oE (mC (.int 1)))) none)) (setN 3) (sSeq (sSet 4 (mIndexO 2 (oS 3)))
    (sSeq (sSet 1 (mOp gAdd [(oS 1), (oE (mOp gMul [(oS 4), (oE (mCall sem_rows_many_c3e5 [(oE (mOp gLen [(oS 2)]))]))]))]))
    (sDrop (mMut gPop 2 [(oE (mRd 4))])))))
    (sRet (mRd 1)))))
noncomputable def sem_row_number_7a06 : Sem := defSem 1 5 b_row_number_7a06
/-- number_of(web, order): slots 0:web 1:order 2:number 3:row -/
noncomputable def b_number_of_1429 : S :=
    (sSeq (sSet 2 (mC (.int 0)))
    (sSeq (sFor (mRow (mRd 1)) (setN 3) (sSet 2 (mOp gAdd [(oE (mOp gMul [(oS 2), (oE (mCall sem_rows_many_c3e5 [(oE (mOp gLen [(oS 3)]))]))])), (oE (mCall sem_row_number_7a06 [(oS 3)]))])))
    (sRet (mRd 2))))
noncomputable def sem_number_of_1429 : Sem := defSem 2 4 b_number_of_1429
end Lw
end

section
namespace Lw
open PySem DL
/-- order_at(web, number): slots 0:web 1:number 2:rows 3:place 4:ends 5:one -/
noncomputable def b_order_at_e71fR : S :=
    (sSeq (sIf (mOr (mNot (mTst (mCall sem_is_whole_637d [(oS 1)]))) (mOr (mTst (mOp gLt [(oS 1), (oE (mC (.int 0)))])) (mTst (mOp gGe [(oS 1), (oE (mCall sem_orders_many_0e37 [(oS 0)]))])))) (sRaise "NoNumber") sNx)
    (sSeq (sSet 2 (mOp gLst []))
    (sSeq (sFor (mOpL gRevR [(oE (mOp gIx [(oS 0), (oE (mC (.int 0)))]))]) (setN 3) (sSeq (sSet 4 (mCall sem_ends_at_2b9c [(oS 0), (oS 3)]))
    (sSeq (sDvm (oS 1) (oE (mCall sem_rows_many_c3e5 [(oE (mOp gLen [(oS 4)]))])) (setT [(setN 1), (setN 5)]))
    (sDrop (mMut gAppend 2 [(oE (mCall sem_row_at_886b [(oS 4), (oS 5)]))])))))
    (sRet (mOp gTupRev [(oS 2)])))))
noncomputable def sem_order_at_e71fR : Sem := defSem 2 6 b_order_at_e71fR
/-- _law_word, asked of a NoNumber -/
def b_WNoNumber_1ef6 : S :=
    (sSeq (sSet 1 (mOp gLst [(oE (mOp gTup [(oE (mC (.str (Str.ofString "apart")))), (oE (mC (.bool false)))])), (oE (mOp gTup [(oE (mC (.str (Str.ofString "end")))), (oE (mC (.bool false)))])), (oE (mOp gTup [(oE (mC (.str (Str.ofString "name")))), (oE (mC (.bool false)))]))])) (sSeq (sSet 1 (mOp gAdd [(oS 1), (oE (mOp gLst [(oE (mOp gTup [(oE (mC (.str (Str.ofString "number")))), (oE (mC (.bool true)))])), (oE (mOp gTup [(oE (mC (.str (Str.ofString "order")))), (oE (mC (.bool false)))]))]))])) (sSeq (sSet 1 (mOp gAdd [(oS 1), (oE (mOp gLst [(oE (mOp gTup [(oE (mC (.str (Str.ofString "paper")))), (oE (mC (.bool false)))])), (oE (mOp gTup [(oE (mC (.str (Str.ofString "place")))), (oE (mC (.bool false)))]))]))])) (sSeq (sSet 1 (mOp gAdd [(oS 1), (oE (mOp gLst [(oE (mOp gTup [(oE (mC (.str (Str.ofString "ring")))), (oE (mC (.bool false)))])), (oE (mOp gTup [(oE (mC (.str (Str.ofString "row")))), (oE (mC (.bool false)))])), (oE (mOp gTup [(oE (mC (.str (Str.ofString "table")))), (oE (mC (.bool false)))]))]))])) (sSeq (sSet 1 (mOp gAdd [(oS 1), (oE (mOp gLst [(oE (mOp gTup [(oE (mC (.str (Str.ofString "text")))), (oE (mC (.bool false)))])), (oE (mOp gTup [(oE (mC (.str (Str.ofString "tie")))), (oE (mC (.bool false)))])), (oE (mOp gTup [(oE (mC (.str (Str.ofString "web")))), (oE (mC (.bool false)))]))]))])) (sSeq (sSet 1 (mOp gAdd [(oS 1), (oE (mOp gLst [(oE (mOp gTup [(oE (mC (.str (Str.ofString "great")))), (oE (mC (.bool false)))])), (oE (mOp gTup [(oE (mC (.str (Str.ofString "many")))), (oE (mC (.bool false)))]))]))])) (sSeq (sSet 2 (mLc [3, 4] (mRowL (mRd 1)) (setT [(setN 3), (setN 4)]) (mTst (mRd 4)) (mRd 3))) (sSeq (sIf (mAnd (mTst (mOp gEq [(oE (mOp gLen [(oS 2)])), (oE (mC (.int 1)))])) (mTst (mC (.bool true)))) (sRet (mOp gIx [(oS 2), (oE (mC (.int 0)))])) sNx) (sRet (mC (.str (Str.ofString ""))))))))))))
def sem_WNoNumber_1ef6 : Sem := defSem 0 5 b_WNoNumber_1ef6
/-- law(_law_script): slots 0:_law_script 1:_law_pen_here 2:_law_web_here 3:_law_many 4:_law_far 5:_law_some 6:_law_thing 7:#tab -/
noncomputable def b_law_1a4dR (P_tab : Nat) : S :=
    (sSeq (sSet 1 (mCall sem_Lpen_3d2f [(oS 0)]))
    (sSeq (sSet 2 (mCall sem_Lweb_0350 [(oS 1), (oE (mC (.int 25))), (oE (mC (.int 24)))]))
    (sSeq (sSet 3 (mCall sem_orders_many_0e37 [(oS 2)]))
    (sSeq (sSet 4 (mCall sem_Ldraw_de5b [(oS 1), (oE (mOp gPow [(oE (mC (.int 10))), (oE (mC (.int 59)))]))]))
    (sSeq (sSet 5 (mOp gLst [(oE (mRd 3)), (oE (mOp gAdd [(oS 3), (oE (mC (.int 1)))])), (oE (mOp gAdd [(oS 3), (oS 4)])), (oE (mOp gSub [(oE (mC (.int 0))), (oE (mC (.int 1)))])), (oE (mOp gSub [(oE (mOp gSub [(oE (mC (.int 0))), (oE (mC (.int 1)))])), (oS 4)])), (oE (mOp gSub [(oE (mC (.int 0))), (oS 3)])), (oE (mC (.bool true))), (oE (mC (.bool false))), (oE (mC .none)), (oE (mC (.str (Str.ofString "0")))), (oE (mC (.str (Str.ofString "")))), (oE (mOp gLst [(oE (mC (.int 0)))])), (oE (mOp gTup [(oE (mC (.int 0)))])), (oE mE0), (oE (mOp gLst [])), (oE (mOp gTup []))]))
    (sSeq (sFor (mRow (mOp gAdd [(oS 5), (oE (mOp gLst [(oE (mOp gStrI [(oE (mOp gSub [(oS 3), (oE (mC (.int 1)))]))])), (oE (mOp gLst [(oE (mOp gSub [(oS 3), (oE (mC (.int 1)))]))])), (oE (mDii 0 0))]))])) (setN 6) (sIf (mTst (mOp gNe [(oE (mTold 7 P_tab (("law" : Str) ++ ".<locals>." ++ "<lambda>") (mCall sem_order_at_e71fR [(oS 2), (oS 6)]) ["NoNumber"] (fun _ => Str.ofString "number"))), (oE (mOp gTup [(oE (mC (.str (Str.ofString "refused")))), (oE (mC (.str (Str.ofString "number"))))]))])) (sRet (mC (.bool false))) sNx))
    (sRet (mOp gEq [(oE (mCall sem_number_of_1429 [(oS 2), (oE (mCall sem_order_at_e71fR [(oS 2), (oE (mOp gSub [(oS 3), (oE (mC (.int 1)))]))]))])), (oE (mOp gSub [(oS 3), (oE (mC (.int 1)))]))]))))))))
noncomputable def sem_law_1a4dR (P_tab : Nat) : Sem := defSem 1 8 (sSeq (sTab 7 P_tab (("law" : Str) ++ ".<locals>." ++ "<lambda>")) (b_law_1a4dR P_tab))
end Lw
end

section
namespace Lw
open PySem DL
def fct : Nat → Nat
  | 0 => 1
  | n + 1 => (n + 1) * fct n
theorem fct_pos : ∀ n, 0 < fct n
  | 0 => Nat.one_pos
  | n + 1 => Nat.mul_pos (Nat.succ_pos n) (fct_pos n)
theorem fct_step (n : Nat) : fct n ≤ fct (n + 1) := Nat.le_mul_of_pos_left _ (Nat.succ_pos n)
theorem fct_mono {a b : Nat} (h : a ≤ b) : fct a ≤ fct b := by
  induction h with
  | refl => exact Nat.le_refl _
  | step _ ih => exact Nat.le_trans ih (fct_step _)
theorem fct_small {n : Nat} (h : n ≤ 47) : fct n ≤ 2 ^ 200 := Nat.le_trans (fct_mono h) (by decide +kernel)
/-- the n-th of all orders of a list of so many -/
def prm : Nat → List Int → Nat → List Int
  | 0, _, _ => []
  | k + 1, l, n => match l[n / fct k]? with
    | some x => x :: prm k (l.eraseIdx (n / fct k)) (n % fct k)
    | none => []
theorem erase_perm : ∀ {l : List Int} {i : Nat} (h : i < l.length), (l[i] :: l.eraseIdx i).Perm l
  | x :: xs, 0, _ => .refl _
  | x :: xs, i + 1, h => by
    have ih := erase_perm (l := xs) (i := i) (by simpa using h)
    exact (List.Perm.swap _ _ _).trans (List.Perm.cons x ih)
theorem prm_perm : ∀ (k : Nat) (l : List Int) (n : Nat), l.length = k → n < fct k → (prm k l n).Perm l
  | 0, l, n, h, _ => by rw [List.eq_nil_of_length_eq_zero h]; exact .refl _
  | k + 1, l, n, h, hn => by
    have hlt : n / fct k < l.length := by
      rw [h]
      exact (Nat.div_lt_iff_lt_mul (fct_pos k)).mpr hn
    unfold prm
    rw [List.getElem?_eq_getElem hlt]
    have h1 : (l.eraseIdx (n / fct k)).length = k := by rw [List.length_eraseIdx, if_pos hlt]; omega
    have ih := prm_perm k _ (n % fct k) h1 (Nat.mod_lt _ (fct_pos k))
    refine (List.Perm.cons _ ih).trans ?_
    exact erase_perm hlt
def rowAt (E : List Int) (n : Nat) : List Int := E.take 1 ++ prm (E.length - 1) (E.drop 1) n
theorem rowAt_perm {E : List Int} {n : Nat} (h : n < fct (E.length - 1)) : (rowAt E n).Perm E := by
  unfold rowAt
  refine (List.Perm.append_left _ (prm_perm _ _ _ (by rw [List.length_drop]) h)).trans ?_
  rw [List.take_append_drop]
/-- a row, each end that isn't in it behind it -/
def ext (E row : List Int) : List (List Int) := (E.filter fun e => !row.contains e).map fun e => row ++ [e]
end Lw
end

section
namespace Lw
open PySem DL
/-- a pen: cells, a count, digits -/
structure Pen (n : Nat) (p : List D) : Prop where
  ex : ∃ (cs : List Int) (a g : Int), p = [.list (cs.map .int), .int a, .int g] ∧ 0 ≤ a ∧ a ≤ n ∧ 0 ≤ g ∧ cs.length ≤ 63
theorem ixP_map {cs : List Int} {i : Int} (h0 : 0 ≤ i) (h1 : i < cs.length) : ∃ c, ixP (cs.map .int) i = some (.int c) := by
  refine ⟨cs[i.toNat]'(by omega), ixP_pos h0 ?_⟩
  rw [List.getElem?_map, List.getElem?_eq_getElem (by omega)]
  rfl
set_option maxHeartbeats 1000000 in
theorem draw_ok {n : Nat} {p : List D} {m : Int} (hp : Pen n p) (hn : n ≤ 1000000) (hm : 1 ≤ m ∧ m ≤ 1000000) :
    Oks sem_Ldraw_de5b [.ow (.lst p), .fz (.int m)] fun v ys => ∃ r p', v = .ok (.val (.int r)) ∧ ys = [.ow (.lst p'), .fz (.int m)] ∧ 0 ≤ r ∧ r < m ∧ Pen (n + 1) p' := by
  obtain ⟨cs, a, g, rfl, ha, hn2, hg, hcs⟩ := hp.ex
  refine oks_def rfl ?_
  have m0 : 0 < m := by omega
  have pow : (10 : Int) ^ 18 = 1000000000000000000 := by decide
  have mm : SmD m := smD_of (by omega)
  have r0 : ∀ x : Int, 0 ≤ x % m := fun x => Int.emod_nonneg _ (by omega)
  have r1 : ∀ x : Int, x % m < m := fun x => Int.emod_lt_of_pos _ m0
  by_cases hg0 : 0 < g
  · simp [b_Ldraw_de5b, hg0, -getElem?_pos, -getElem?_neg, List.getElem?_cons_zero, List.getElem?_cons_succ, m0, mm, r0, r1]
    exact ⟨cs, a, g / m, rfl, ha, by omega, Int.ediv_nonneg hg (by omega), hcs⟩
  · have s1 : SmM 69621 a := smM_of (by omega) (by omega)
    have s2 : ∀ c : Int, SmM (c % 2147483647 + 69621 * a + 13) 48271 := fun c => smM_of (by omega) (by omega)
    have key : ∀ x : Int, 0 ≤ x % 2147483629 ∧ x % 2147483629 < 2147483629 := fun x => by omega
    have s3 : ∀ x : Int, SmM (x % 2147483629) (x % 2147483629) := fun c => smM_of (by omega) (by omega)
    have s4 : ∀ x : Int, SmM 40692 (x % 2147483629) := fun c => smM_of (by omega) (by omega)
    have s5 : ∀ x : Int, SmM (x % 2147483587) 16807 := fun c => smM_of (by omega) (by omega)
    have s6 : SmD 32 := smD_of (by omega)
    have pen1 : ∀ g', 0 ≤ g' → Pen (n + 1) [.list (cs.map .int), .int (a + 1), .int g'] := fun g' h => ⟨cs, a + 1, g', rfl, by omega, by omega, h, hcs⟩
    by_cases hl : 0 < cs.length
    · obtain ⟨c, hc⟩ := ixP_map (cs := cs) (i := a % cs.length) (Int.emod_nonneg _ (by omega)) (Int.emod_lt_of_pos _ (by omega))
      by_cases h2 : a < cs.length ∧ 10 ^ 18 ≤ (if c < 0 then -c else c)
      · have h2' := h2.2
        rw [pow] at h2'
        simp [b_Ldraw_de5b, hg0, -getElem?_pos, -getElem?_neg, List.getElem?_cons_zero, List.getElem?_cons_succ, m0, mm, r0, r1, s1, s2, s3, s4, s5, s6, hl, hc, h2.1, h2', pow]
        exact pen1 _ (Int.ediv_nonneg (by omega) (by omega))
      · by_cases h3 : a < cs.length
        · have h2' : ¬ 1000000000000000000 ≤ (if c < 0 then -c else c) := fun h => h2 ⟨h3, by rw [pow]; exact h⟩
          simp [b_Ldraw_de5b, hg0, -getElem?_pos, -getElem?_neg, List.getElem?_cons_zero, List.getElem?_cons_succ, m0, mm, r0, r1, s1, s2, s3, s4, s5, s6, hl, hc, h3, h2', pow]
          exact pen1 _ hg
        · simp [b_Ldraw_de5b, hg0, -getElem?_pos, -getElem?_neg, List.getElem?_cons_zero, List.getElem?_cons_succ, m0, mm, r0, r1, s1, s2, s3, s4, s5, s6, hl, hc, h3]
          exact pen1 _ hg
    · have hl2 : cs.length = 0 := by omega
      have h3 : ¬ a < 0 := by omega
      have s2' : SmM (11 + 69621 * a + 13) 48271 := smM_of (by omega) (by omega)
      simp [b_Ldraw_de5b, hg0, -getElem?_pos, -getElem?_neg, List.getElem?_cons_zero, List.getElem?_cons_succ, m0, mm, r0, r1, s1, s2, s2', s3, s4, s5, s6, hl, hl2, h3]
      exact pen1 _ hg
end Lw
end

section
namespace Lw
open PySem DL
theorem cut63 {ns : List Int} (h : ns.length ≤ 63) : cutD ns none (some 63) = ns := by
  have : sIxD ns.length ns.length (some 63) = ns.length := by
    unfold sIxD
    simp
    omega
  unfold cutD
  rw [this]
  simp [sIxD]
theorem pen_ok {ns : List Int} (h : ns.length ≤ 63) : Oks sem_Lpen_3d2f [.fz (.dict ((.none, .none) :: ns.map fun n => (.int n, .none)))] fun v ys => ∃ p, v = .ok (.new (.lst p)) ∧ ys = [.fz (.dict ((.none, .none) :: ns.map fun n => (.int n, .none)))] ∧ Pen 0 p := by
  refine oks_def rfl ?_
  simp [b_Lpen_3d2f, -getElem?_pos, -getElem?_neg, List.getElem?_cons_zero, List.getElem?_cons_succ, cut63 h, anyPin]
  refine lcK_map id (fun d _ => ?_) (by simp [lineD]; omega) ?_
  · simp [-getElem?_pos, -getElem?_neg, List.getElem?_cons_zero, List.getElem?_cons_succ]
  · simp
    exact ⟨ns, 0, 0, rfl, by omega, by omega, by omega, h⟩
end Lw
end

section
namespace Lw
open PySem DL
def tieD (t : Int × Int) : D := .tuple [.int t.1, .int t.2]
def webD (m : Int) (ts : List (Int × Int)) : D := .tuple [.int m, .tuple (ts.map tieD)]
def TiesOk (m : Int) (ts : List (Int × Int)) : Prop := ∀ t ∈ ts, (0 ≤ t.1 ∧ t.1 < m) ∧ 0 ≤ t.2 ∧ t.2 < m
structure Web (N T : Nat) (m : Int) (ts : List (Int × Int)) : Prop where
  m1 : 1 ≤ m
  mN : m ≤ N
  len : ts.length ≤ T
  ok : TiesOk m ts
/-- the slots in the loop of _law_web -/
def WebI (n : Nat) (pl ti m way ct : Int) (k : Nat) (r : Ro) : Prop := ∃ p ts x7 x8 x9, r = [.own true (.lst p), .frz false (.int pl), .frz false (.int ti), .frz false (.int m), .frz false (.int way), .frz false (.int ct), .own false (.lst (ts.map tieD)), x7, x8, x9]
  ∧ Pen (n + 2 * k) p ∧ ts.length = k ∧ TiesOk m ts ∧ Fr x7 ∧ Fr x8 ∧ Fr x9
theorem TiesOk.snoc {m : Int} {ts : List (Int × Int)} {t : Int × Int} (h : TiesOk m ts) (ht : (0 ≤ t.1 ∧ t.1 < m) ∧ 0 ≤ t.2 ∧ t.2 < m) : TiesOk m (ts ++ [t]) := fun u hu => by
  rcases List.mem_append.mp hu with h1 | h1
  · exact h u h1
  · rw [List.mem_singleton.mp h1]; exact ht
noncomputable def webBody : S := sSeq (sPar 8 9 (mCall sem_Ldraw_de5b [(oS 0), (oS 3)]) (mCall sem_Ldraw_de5b [(oS 0), (oS 3)]))
    (sSeq (sIf (mTst (mOp gEq [(oS 4), (oE (mC (.int 1)))])) (sPar 8 9 (mOp gMod [(oS 7), (oS 3)]) (mOp gMod [(oE (mOp gAdd [(oS 7), (oE (mC (.int 1)))])), (oS 3)])) sNx)
    (sSeq (sIf (mTst (mOp gEq [(oS 4), (oE (mC (.int 2)))])) (sSet 8 (mC (.int 0))) sNx)
    (sSeq (sIf (mTst (mOp gEq [(oS 4), (oE (mC (.int 3)))])) (sSet 9 (mOp gAdd [(oE (mOp gMod [(oS 8), (oE (mC (.int 2)))])), (oE (mOp gMul [(oE (mOp gDiv [(oS 9), (oE (mC (.int 2)))])), (oE (mC (.int 2)))]))])) sNx)
    (sSeq (sIf (mAnd (mTst (mOp gEq [(oS 4), (oE (mC (.int 4)))])) (mTst (mOp gEq [(oE (mOp gMod [(oS 9), (oE (mC (.int 2)))])), (oE (mC (.int 0)))]))) (sSet 9 (mRd 8)) sNx)
    (sDrop (mMut gAppend 6 [(oE (mOp gTup [(oE (mRd 8)), (oE (mOp gMin2 [(oS 9), (oE (mOp gSub [(oS 3), (oE (mC (.int 1)))]))]))]))]))))))
set_option maxHeartbeats 4000000 in
theorem web_body {n : Nat} {pl ti m way ct : Int} {Q : SO → Ro → Prop} (hn : n ≤ 100000) (hm : 1 ≤ m ∧ m ≤ 1000) (hw : 0 ≤ way ∧ way < 6) {k : Nat} {r : Ro} (hk : k ≤ 1000) (h : WebI n pl ti m way ct k r) :
    W (setN 7 (.int k)) r (nxP webBody (loopP (WebI n pl ti m way ct (k + 1)) Q)) := by
  obtain ⟨p, ts, x7, x8, x9, rfl, hp, hl, ht, h7, h8, h9⟩ := h
  obtain ⟨o1, y1, e1, a, p1, rfl, rfl, a0, a1, hp1⟩ := draw_ok hp (by omega) (m := m) (by omega)
  obtain ⟨o2, y2, e2, b, p2, rfl, rfl, b0, b1, hp2⟩ := draw_ok hp1 (by omega) (m := m) (by omega)
  have hp3 : Pen (n + 2 * (k + 1)) p2 := hp2
  have m0 : 0 < m := by omega
  have lb : (lineD : Nat) = 16777216 := rfl
  have hk2 : ts.length < lineD := by unfold lineD; omega
  have fin : ∀ a b : Int, 0 ≤ a → a < m → 0 ≤ b → WebI n pl ti m way ct (k + 1) [.own true (.lst p2), .frz false (.int pl), .frz false (.int ti), .frz false (.int m), .frz false (.int way), .frz false (.int ct), .own false (.lst (ts.map tieD ++ [.tuple [.int a, .int (if m - 1 < b then m - 1 else b)]])), .frz false (.int k), .frz false (.int a), .frz false (.int b)] := fun a b h1 h2 h3 =>
    ⟨p2, ts ++ [(a, if m - 1 < b then m - 1 else b)], .frz false (.int k), .frz false (.int a), .frz false (.int b), by simp [tieD], hp3, by simp [hl], ht.snoc ⟨⟨h1, h2⟩, by dsimp only; split <;> omega, by dsimp only; split <;> omega⟩, .frz, .frz, .frz⟩
  have s1 : SmD 2 := smD_of (by omega)
  have s2 : SmM (b / 2) 2 := smM_of (by omega) (by omega)
  have ways : way = 0 ∨ way = 1 ∨ way = 2 ∨ way = 3 ∨ way = 4 ∨ way = 5 := by omega
  rcases ways with rfl | rfl | rfl | rfl | rfl | rfl
  · simp [webBody, -getElem?_pos, -getElem?_neg, List.getElem?_cons_zero, List.getElem?_cons_succ, h7.pin, h8.pin, h9.pin, h7.al, h8.al, h9.al, e1, e2, m0, hk2]
    exact fin a b a0 a1 b0
  · simp [webBody, -getElem?_pos, -getElem?_neg, List.getElem?_cons_zero, List.getElem?_cons_succ, h7.pin, h8.pin, h9.pin, h7.al, h8.al, h9.al, e1, e2, m0, hk2]
    exact fin (k % m) ((k + 1) % m) (Int.emod_nonneg _ (by omega)) (Int.emod_lt_of_pos _ m0) (Int.emod_nonneg _ (by omega))
  · simp [webBody, -getElem?_pos, -getElem?_neg, List.getElem?_cons_zero, List.getElem?_cons_succ, h7.pin, h8.pin, h9.pin, h7.al, h8.al, h9.al, e1, e2, m0, hk2]
    exact fin 0 b (by omega) (by omega) b0
  · simp [webBody, -getElem?_pos, -getElem?_neg, List.getElem?_cons_zero, List.getElem?_cons_succ, h7.pin, h8.pin, h9.pin, h7.al, h8.al, h9.al, e1, e2, m0, hk2, s1, s2]
    exact fin a (a % 2 + b / 2 * 2) a0 a1 (by omega)
  · by_cases hb : b % 2 = 0
    · simp [webBody, -getElem?_pos, -getElem?_neg, List.getElem?_cons_zero, List.getElem?_cons_succ, h7.pin, h8.pin, h9.pin, h7.al, h8.al, h9.al, e1, e2, m0, hk2, hb]
      exact fin a a a0 a1 a0
    · simp [webBody, -getElem?_pos, -getElem?_neg, List.getElem?_cons_zero, List.getElem?_cons_succ, h7.pin, h8.pin, h9.pin, h7.al, h8.al, h9.al, e1, e2, m0, hk2, hb]
      exact fin a b a0 a1 b0
  · simp [webBody, -getElem?_pos, -getElem?_neg, List.getElem?_cons_zero, List.getElem?_cons_succ, h7.pin, h8.pin, h9.pin, h7.al, h8.al, h9.al, e1, e2, m0, hk2]
    exact fin a b a0 a1 b0
end Lw
end

section
namespace Lw
open PySem DL
theorem web_tail {n : Nat} {pl ti m way ct : Int} {x7 x8 x9 : Sl} {p p0 : List D} (hn : n ≤ 90000) (hm : 1 ≤ m ∧ m ≤ 1000) (hw : 0 ≤ way ∧ way < 6) (hc : 0 ≤ ct ∧ ct ≤ 1000) (hp : Pen n p) (h7 : Fr x7) (h8 : Fr x8) (h9 : Fr x9)
    {P : EO RV → List Rs → Prop} (hP : ∀ ts p', ts.length = ct → TiesOk m ts → Pen (n + 2 * ct.toNat) p' → P (.ok (.val (webD m ts))) [.ow (.lst p'), .fz (.int pl), .fz (.int ti)]) :
    W (sFor (mOpL gRng1 [(oS 5)]) (setN 7) webBody) [.own true (.lst p), .frz false (.int pl), .frz false (.int ti), .frz false (.int m), .frz false (.int way), .frz false (.int ct), .own false (.lst []), x7, x8, x9]
      (thenP (sRet (mOp gTup [(oE (mRd 3)), (oE (mOp gTuple [(oS 6)]))])) (retP [.ow (.lst p0), .fz (.int pl), .fz (.int ti)] P)) := by
  have o1 : -4611686018427387904 ≤ ct := by omega
  have o2 : ct < 4611686018427387904 := by omega
  simp [-getElem?_pos, -getElem?_neg, List.getElem?_cons_zero, List.getElem?_cons_succ, o1, o2]
  refine forS_inv (WebI n pl ti m way ct) (rng 0 ct) 0 _ ?_ (fun k d r hd h => ?_) (fun r h => ?_)
  · exact ⟨p, [], x7, x8, x9, rfl, hp, rfl, fun _ h => (nomatch h), h7, h8, h9⟩
  · obtain ⟨rfl, hk⟩ := rng0_get hd
    rw [Nat.zero_add] at h ⊢
    exact web_body (by omega) hm hw (by omega) h
  · obtain ⟨p', ts, x7, x8, x9, rfl, hp, hl, ht, h7, h8, h9⟩ := h
    rw [rng0_len] at hl hp
    rw [Nat.zero_add] at hl hp
    have := hP ts p' (by omega) ht hp
    simp [-getElem?_pos, -getElem?_neg, List.getElem?_cons_zero, List.getElem?_cons_succ]
    exact this
set_option maxHeartbeats 4000000 in
theorem web_ok {n : Nat} {pl ti : Int} {p : List D} (hp : Pen n p) (hn : n ≤ 80000) (hpl : 1 ≤ pl ∧ pl ≤ 1000) (hti : 0 ≤ ti ∧ ti ≤ 999) :
    Oks sem_Lweb_0350 [.ow (.lst p), .fz (.int pl), .fz (.int ti)] fun v ys => ∃ m ts p', v = .ok (.val (webD m ts)) ∧ ys = [.ow (.lst p'), .fz (.int pl), .fz (.int ti)] ∧ Web pl.toNat ti.toNat m ts ∧ Pen (n + 2003) p' := by
  obtain ⟨o1, y1, e1, a, p1, rfl, rfl, a0, a1, hp1⟩ := draw_ok hp (by omega) (m := pl) (by omega)
  obtain ⟨o2, y2, e2, w, p2, rfl, rfl, w0, w1, hp2⟩ := draw_ok hp1 (by omega) (m := 6) (by omega)
  obtain ⟨o3, y3, e3, c, p3, rfl, rfl, c0, c1, hp3⟩ := draw_ok hp2 (by omega) (m := ti + 1) (by omega)
  have mono : ∀ {a b : Nat} {q : List D}, a ≤ b → Pen a q → Pen b q := fun h ⟨cs, a, g, e, h1, h2, h3, h4⟩ => ⟨cs, a, g, e, h1, by omega, h3, h4⟩
  refine oks_def rfl ?_
  by_cases hw : w = 5
  · subst hw
    simp [b_Lweb_0350, -W_for, -getElem?_pos, -getElem?_neg, List.getElem?_cons_zero, List.getElem?_cons_succ, e1, e2, e3]
    refine web_tail (n := n + 3) (by omega) (by omega) (by omega) (by omega) hp3 .non .non .non fun ts p' h1 h2 h3 => ?_
    exact ⟨pl, ts, rfl, p', rfl, ⟨by omega, by omega, by omega, h2⟩, mono (by omega) h3⟩
  · simp [b_Lweb_0350, -W_for, -getElem?_pos, -getElem?_neg, List.getElem?_cons_zero, List.getElem?_cons_succ, e1, e2, e3, hw]
    refine web_tail (n := n + 3) (by omega) (by omega) (by omega) (by omega) hp3 .non .non .non fun ts p' h1 h2 h3 => ?_
    exact ⟨1 + a, ts, rfl, p', rfl, ⟨by omega, by omega, by omega, h2⟩, mono (by omega) h3⟩
end Lw
end

section
namespace Lw
open PySem DL
def orderD (rows : List (List Int)) : D := .tuple (rows.map fun row => .tuple (row.map .int))
/-- the place of an end -/
def plc (ts : List (Int × Int)) (e : Nat) : Int := match ts[e / 2]? with
  | some t => if e % 2 = 0 then t.1 else t.2
  | none => -1
/-- a row as far as the ends below k go -/
structure RowN (ts : List (Int × Int)) (k q : Nat) (row : List Int) : Prop where
  nd : row.Nodup
  mem : ∀ e : Int, e ∈ row ↔ 0 ≤ e ∧ e < k ∧ plc ts e.toNat = q
  hd : ∀ x xs, row = x :: xs → ∀ y ∈ xs, x < y
  len : row.length ≤ k
structure OrdN (m : Int) (ts : List (Int × Int)) (k : Nat) (rows : List (List Int)) : Prop where
  len : rows.length = m.toNat
  row : ∀ q row, rows[q]? = some row → RowN ts k q row
theorem plc_get {ts : List (Int × Int)} {k : Nat} (hk : k < 2 * ts.length) : ∃ t, t ∈ ts ∧ ixP (ts.map tieD) ((k : Int) / 2) = some (tieD t) ∧ ixP [.int t.1, .int t.2] ((k : Int) % 2) = some (.int (plc ts k)) ∧ (plc ts k = t.1 ∨ plc ts k = t.2) := by
  have hk2 : k / 2 < ts.length := by omega
  have hg : ts[k / 2]? = some ts[k / 2] := List.getElem?_eq_getElem hk2
  refine ⟨ts[k / 2], List.getElem_mem hk2, ?_, ?_, ?_⟩
  · have := ixP_nat (xs := ts.map tieD) (k := k / 2) (d := tieD ts[k / 2]) (by rw [List.getElem?_map, hg]; rfl)
    exact_mod_cast this
  · unfold plc
    rw [hg]
    by_cases h : k % 2 = 0
    · rw [show (k : Int) % 2 = 0 by omega]
      simp [h]
    · rw [show (k : Int) % 2 = 1 by omega]
      simp [h]
  · unfold plc
    rw [hg]
    dsimp only
    split
    · exact .inl rfl
    · exact .inr rfl
end Lw
end

section
namespace Lw
open PySem DL
end Lw
end

section
namespace Lw
open PySem DL
/-- the row's next one behind an end -/
def nextIn (row : List Int) (e : Int) : Option Int := (row.findIdx? (· == e)).bind fun k => row[(k + 1) % row.length]?
def nxt (ts : List (Int × Int)) (rows : List (List Int)) (e : Nat) : Option Int := (rows[(plc ts e).toNat]?).bind fun row => nextIn row e
def ptn (e : Nat) : Nat := if e % 2 = 0 then e + 1 else e - 1
theorem findIdx_get {row : List Int} {k : Nat} {e : Int} (h : row[k]? = some e) (nd : row.Nodup) : row.findIdx? (· == e) = some k := by
  obtain ⟨h1, h2⟩ := List.getElem?_eq_some_iff.mp h
  rw [List.findIdx?_eq_some_iff_getElem]
  refine ⟨h1, by simp [h2], fun j hj => ?_⟩
  have : row[j] ≠ row[k] := List.pairwise_iff_getElem.mp nd j k (by omega) h1 hj
  rw [h2] at this
  simpa using this
theorem nextIn_get {row : List Int} {k : Nat} {e : Int} (h : row[k]? = some e) (nd : row.Nodup) : nextIn row e = row[(k + 1) % row.length]? := by
  unfold nextIn
  rw [findIdx_get h nd]
  rfl
theorem place_ok {m : Int} {ts : List (Int × Int)} {k : Nat} (hk : k < 2 * ts.length) : Oks sem_place_of_8c4c [.fz (webD m ts), .fz (.int k)] fun v ys => v = .ok (.val (.int (plc ts k))) ∧ ys = [.fz (webD m ts), .fz (.int k)] := by
  obtain ⟨t, ht1, hi1, hi2, hpl⟩ := plc_get hk
  have s1 : SmD 2 := smD_of (by omega)
  refine oks_def rfl ?_
  simp [b_place_of_8c4c, -getElem?_pos, -getElem?_neg, List.getElem?_cons_zero, List.getElem?_cons_succ, webD, hi1, tieD, hi2, s1]
/-- where an end stands -/
theorem OrdN.at {m : Int} {ts : List (Int × Int)} {rows : List (List Int)} (ho : OrdN m ts (2 * ts.length) rows) (ht : TiesOk m ts) {k : Nat} (hk : k < 2 * ts.length) :
    ∃ q row j y, plc ts k = (q : Nat) ∧ rows[q]? = some row ∧ row[j]? = some (k : Int) ∧ row[(j + 1) % row.length]? = some y ∧ nxt ts rows k = some y ∧ row.findIdx? (· == (k : Int)) = some j ∧ 0 < row.length ∧ row.length ≤ 2 * ts.length ∧ ∃ y', y = (y' : Nat) ∧ y' < 2 * ts.length := by
  obtain ⟨t, ht1, hi1, hi2, hpl⟩ := plc_get hk
  have htk := ht t ht1
  obtain ⟨q, hq⟩ : ∃ q : Nat, plc ts k = q := ⟨(plc ts k).toNat, by omega⟩
  have hqm : q < rows.length := by rw [ho.len]; omega
  obtain ⟨row, hrow⟩ : ∃ row, rows[q]? = some row := ⟨_, List.getElem?_eq_getElem hqm⟩
  have hr := ho.row q row hrow
  have hm : (k : Int) ∈ row := (hr.mem k).mpr ⟨by omega, by omega, by simpa using hq⟩
  obtain ⟨j, hj, hj2⟩ := List.mem_iff_getElem.mp hm
  have hj3 : row[j]? = some (k : Int) := by rw [List.getElem?_eq_getElem hj, hj2]
  have hmod : (j + 1) % row.length < row.length := Nat.mod_lt _ (by omega)
  have hy : row[(j + 1) % row.length]? = some row[(j + 1) % row.length] := List.getElem?_eq_getElem hmod
  have hym := (hr.mem _).mp (List.getElem_mem hmod)
  refine ⟨q, row, j, _, hq, hrow, hj3, hy, ?_, findIdx_get hj3 hr.nd, by omega, hr.len, (row[(j + 1) % row.length]).toNat, by omega, by omega⟩
  unfold nxt
  rw [hq, Int.toNat_natCast, hrow]
  show nextIn row k = _
  rw [nextIn_get hj3 hr.nd, hy]
/-- the others turned about -/
def turn (row : List Int) : List Int := row.take 1 ++ (row.drop 1).reverse
theorem RowN.turn {ts : List (Int × Int)} {k q : Nat} {row : List Int} (h : RowN ts k q row) : RowN ts k q (turn row) := by
  have hperm : (Lw.turn row).Perm row := by
    unfold Lw.turn
    refine (List.Perm.append_left _ (List.reverse_perm _)).trans ?_
    rw [List.take_append_drop]
  refine ⟨hperm.nodup_iff.mpr h.nd, fun e => by rw [hperm.mem_iff, h.mem], fun x xs e y hy => ?_, by rw [hperm.length_eq]; exact h.len⟩
  cases row with
  | nil => cases e
  | cons z zs =>
    unfold Lw.turn at e
    simp at e
    obtain ⟨rfl, rfl⟩ := e
    exact h.hd z zs rfl y (List.mem_reverse.mp hy)
theorem OrdN.turn {m : Int} {ts : List (Int × Int)} {k : Nat} {rows : List (List Int)} (h : OrdN m ts k rows) : OrdN m ts k (rows.map Lw.turn) := by
  refine ⟨by rw [List.length_map]; exact h.len, fun q row e => ?_⟩
  rw [List.getElem?_map] at e
  cases hr : rows[q]? with
  | none => rw [hr] at e; cases e
  | some r0 => rw [hr] at e; cases e; exact (h.row _ _ hr).turn
end Lw
end

section
namespace Lw
open PySem DL
/-- a dict from ends to the next ones, so far -/
structure BehN (ts : List (Int × Int)) (rows : List (List Int)) (q j c : Nat) (kvs : List (Ky × D)) : Prop where
  len : kvs.length ≤ c
  mem : ∀ q' row, rows[q']? = some row → ∀ i y, row[i]? = some y → (q' < q ∨ (q' = q ∧ i < j)) → ∀ x, row[(i + row.length - 1) % row.length]? = some x → valD kvs (.inl x) = some (.int y)
theorem BehN.put {m : Int} {ts : List (Int × Int)} {rows : List (List Int)} {q j c n : Nat} {kvs : List (Ky × D)} {row : List Int} {x y : Int} (ho : OrdN m ts n rows) (h : BehN ts rows q j c kvs) (hr : rows[q]? = some row) (hy : row[j]? = some y) (hx : row[(j + row.length - 1) % row.length]? = some x) : BehN ts rows q (j + 1) (c + 1) (putD kvs (.inl x) (.int y)) := by
  have hj := (List.getElem?_eq_some_iff.mp hy).1
  refine ⟨Nat.le_trans putD_len (by have := h.len; omega), fun q' row' hr' i y' hy' hc x' hx' => ?_⟩
  rw [valD_put]
  have hi := (List.getElem?_eq_some_iff.mp hy').1
  have pm : ∀ i l : Nat, i < l → (i + l - 1) % l < l := fun i l h => Nat.mod_lt _ (by omega)
  by_cases hxx : x' = x
  · subst hxx
    rw [if_pos rfl]
    have hm1 := ((ho.row _ _ hr).mem x').mp (List.mem_of_getElem? hx)
    have hm2 := ((ho.row _ _ hr').mem x').mp (List.mem_of_getElem? hx')
    have hqq : q = q' := by have := hm1.2.2.symm.trans hm2.2.2; exact_mod_cast this
    subst hqq
    rw [hr] at hr'
    cases hr'
    have f1 := findIdx_get hx (ho.row _ _ hr).nd
    have f2 := findIdx_get hx' (ho.row _ _ hr).nd
    rw [f1] at f2
    have f3 := Option.some.inj f2
    have hij : i = j := by
      have a1 : (j + row.length - 1) % row.length = if j = 0 then row.length - 1 else j - 1 := by
        split
        · rename_i h0; subst h0; rw [Nat.zero_add]; exact Nat.mod_eq_of_lt (by omega)
        · rw [show j + row.length - 1 = (j - 1) + row.length by omega, Nat.add_mod_right]; exact Nat.mod_eq_of_lt (by omega)
      have a2 : (i + row.length - 1) % row.length = if i = 0 then row.length - 1 else i - 1 := by
        split
        · rename_i h0; subst h0; rw [Nat.zero_add]; exact Nat.mod_eq_of_lt (by omega)
        · rw [show i + row.length - 1 = (i - 1) + row.length by omega, Nat.add_mod_right]; exact Nat.mod_eq_of_lt (by omega)
      rw [a1, a2] at f3
      split at f3 <;> split at f3 <;> omega
    subst hij
    rw [hy] at hy'
    cases hy'
    rfl
  · rw [if_neg (by simpa using hxx)]
    refine h.mem q' row' hr' i y' hy' ?_ x' hx'
    rcases hc with hc | ⟨rfl, hc⟩
    · exact .inl hc
    · by_cases hij : i = j
      · subst hij
        rw [hr] at hr'
        cases hr'
        rw [hx] at hx'
        exact absurd (Option.some.inj hx').symm hxx
      · exact .inr ⟨rfl, by omega⟩
end Lw
end

section
namespace Lw
open PySem DL
end Lw
end

section
namespace Lw
open PySem DL
/-- the row's one ahead of an end -/
def prevIn (row : List Int) (e : Int) : Option Int := (row.findIdx? (· == e)).bind fun k => row[(k + row.length - 1) % row.length]?
def prv (ts : List (Int × Int)) (rows : List (List Int)) (e : Nat) : Option Int := (rows[(plc ts e).toNat]?).bind fun row => prevIn row e
/-- crossings -/
structure Cr (ts : List (Int × Int)) (cs : List Int) : Prop where
  len : cs.length = ts.length
  ok : ∀ c ∈ cs, c = 0 ∨ c = 1
theorem Cr.get {ts : List (Int × Int)} {cs : List Int} (h : Cr ts cs) {k : Nat} (hk : k < 2 * ts.length) : ∃ c : Int, (c = 0 ∨ c = 1) ∧ cs[k / 2]? = some c ∧ ixP (cs.map PyData.int) ((k : Int) / 2) = some (.int c) := by
  have hl := h.len
  have hk2 : k / 2 < cs.length := by omega
  refine ⟨cs[k / 2], h.ok _ (List.getElem_mem hk2), List.getElem?_eq_getElem hk2, ?_⟩
  have := ixP_nat (xs := cs.map PyData.int) (k := k / 2) (d := .int cs[k / 2]) (by rw [List.getElem?_map, List.getElem?_eq_getElem hk2]; rfl)
  exact_mod_cast this
/-- the hand behind a tie -/
def hb (c h : Int) : Int := if c = 1 then 1 - h else h
end Lw
end

section
namespace Lw
open PySem DL
end Lw
end

section
namespace Lw
open PySem DL
/-- data of whole numbers, tuples and lists, k deep -/
def SmD : Nat → D → Prop
  | _, .int _ => True
  | k + 1, .tuple ds => ds.length ≤ 1000000 ∧ ∀ d ∈ ds, SmD k d
  | k + 1, .list ds => ds.length ≤ 1000000 ∧ ∀ d ∈ ds, SmD k d
  | _, _ => False
end Lw
end

section
namespace Lw
open PySem DL
theorem okD_b {b : Bool} : okD (.bool b) = true := by
  unfold okD PyData.canLay0 PyData.depth
  rfl
theorem eqv_bb {a b : Bool} : PyData.eqv (.bool a) (.bool b) = decide (a = b) := by
  cases a <;> cases b <;> (unfold PyData.eqv; rfl)
@[simp] theorem gEq_bb {a b : Bool} : gEq [.fz (.bool a), .fz (.bool b)] = some (.val (.bool (decide (a = b)))) := by
  show (if okD (.bool a) && okD (.bool b) then some (RV.val (.bool (PyData.eqv (.bool a) (.bool b)))) else none) = _
  rw [okD_b, okD_b, eqv_bb]
  rfl
@[simp] theorem gNe_bb {a b : Bool} : gNe [.fz (.bool a), .fz (.bool b)] = some (.val (.bool (!decide (a = b)))) := by
  show (if okD (.bool a) && okD (.bool b) then some (RV.val (.bool (!PyData.eqv (.bool a) (.bool b)))) else none) = _
  rw [okD_b, okD_b, eqv_bb]
  rfl
end Lw
end

section
namespace Lw
open PySem DL
end Lw
end

section
namespace Lw
open PySem DL
end Lw
end

section
namespace Lw
open PySem DL
end Lw
end

section
namespace Lw
open PySem DL
/-- states: the hand behind the tie -/
def hbF (cs : List Int) (s : Nat × Int) : Int := hb (cs[s.1 / 2]?.getD 0) s.2
def bk (cs : List Int) (s : Nat × Int) : Nat × Int := (ptn s.1, 1 - hbF cs s)
def nxF (ts : List (Int × Int)) (rows : List (List Int)) (k : Nat) : Nat := ((nxt ts rows k).getD 0).toNat
def pvF (ts : List (Int × Int)) (rows : List (List Int)) (k : Nat) : Nat := ((prv ts rows k).getD 0).toNat
def fw (ts : List (Int × Int)) (rows : List (List Int)) (cs : List Int) (s : Nat × Int) : Nat × Int := if hbF cs s = 0 then (nxF ts rows (ptn s.1), 0) else (pvF ts rows (ptn s.1), 1)
/-- a state of the web -/
def St (T : Nat) (s : Nat × Int) : Prop := s.1 < 2 * T ∧ (s.2 = 0 ∨ s.2 = 1)
end Lw
end

section
namespace Lw
open PySem DL
section
variable {m : Int} {ts : List (Int × Int)} {rows : List (List Int)} {cs : List Int}
end
end Lw
end

section
namespace Lw
theorem least {P : Nat → Prop} (h : ∃ n, P n) : ∃ n, P n ∧ ∀ m, m < n → ¬ P m := by
  obtain ⟨n, hn⟩ := h
  induction n using Nat.strongRecOn with
  | ind n ih =>
    by_cases h : ∃ m, m < n ∧ P m
    · obtain ⟨m, h1, h2⟩ := h
      exact ih m h1 h2
    · exact ⟨n, hn, fun m h1 h2 => h ⟨m, h1, h2⟩⟩
section
variable {α : Type}
def itr (f : α → α) : Nat → α → α
  | 0, x => x
  | n + 1, x => f (itr f n x)
theorem itr_add (f : α → α) (a b : Nat) (x : α) : itr f (a + b) x = itr f a (itr f b x) := by
  induction a with
  | zero => rw [Nat.zero_add]; rfl
  | succ a ih => rw [Nat.succ_add]; show f _ = f _; rw [ih]
/-- a step that keeps within P, one to one, and comes back within B steps -/
structure Stp (f : α → α) (P : α → Prop) (B : Nat) : Prop where
  cl : ∀ x, P x → P (f x)
  inj : ∀ x y, P x → P y → f x = f y → x = y
  ret : ∀ x, P x → ∃ n, 1 ≤ n ∧ n ≤ B ∧ itr f n x = x
open Classical in
noncomputable def per (f : α → α) (x : α) : Nat := if h : ∃ n, 1 ≤ n ∧ itr f n x = x then Classical.choose (least h) else 0
noncomputable def orb (f : α → α) (x : α) : List α := (List.range (per f x)).map fun n => itr f n x
theorem per_spec {f : α → α} {x : α} (h : ∃ n, 1 ≤ n ∧ itr f n x = x) : 1 ≤ per f x ∧ itr f (per f x) x = x ∧ ∀ m, 1 ≤ m → m < per f x → itr f m x ≠ x := by
  unfold per
  rw [dif_pos h]
  obtain ⟨⟨h1, h2⟩, h3⟩ := Classical.choose_spec (least h)
  exact ⟨h1, h2, fun m a b c => h3 m b ⟨a, c⟩⟩
variable {f : α → α} {P : α → Prop} {B : Nat}
theorem Stp.itr (s : Stp f P B) {x : α} (hx : P x) : ∀ n, P (itr f n x)
  | 0 => hx
  | n + 1 => s.cl _ (s.itr hx n)
theorem Stp.per (s : Stp f P B) {x : α} (hx : P x) : 1 ≤ per f x ∧ Lw.itr f (Lw.per f x) x = x ∧ ∀ m, 1 ≤ m → m < Lw.per f x → Lw.itr f m x ≠ x := by
  obtain ⟨n, h1, _, h2⟩ := s.ret x hx
  exact per_spec ⟨n, h1, h2⟩
theorem Stp.itr_inj (s : Stp f P B) {x y : α} (hx : P x) (hy : P y) : ∀ n, Lw.itr f n x = Lw.itr f n y → x = y
  | 0, h => h
  | n + 1, h => s.itr_inj hx hy n (s.inj _ _ (s.itr hx n) (s.itr hy n) h)
/-- the places of a round are unlike -/
theorem Stp.apart (s : Stp f P B) {x : α} (hx : P x) {i j : Nat} (hij : i < j) (hj : j < Lw.per f x) : Lw.itr f i x ≠ Lw.itr f j x := by
  intro h
  obtain ⟨_, _, h4⟩ := s.per hx
  have e : j = i + (j - i) := by omega
  rw [e, itr_add] at h
  exact h4 (j - i) (by omega) (by omega) (s.itr_inj hx (s.itr hx _) i h).symm
theorem itr_mul {x : α} {p : Nat} (h : itr f p x = x) : ∀ k, itr f (p * k) x = x
  | 0 => rfl
  | k + 1 => by rw [Nat.mul_succ, itr_add, h, itr_mul h k]
theorem Stp.mod (s : Stp f P B) {x : α} (hx : P x) (n : Nat) : Lw.itr f n x = Lw.itr f (n % Lw.per f x) x := by
  obtain ⟨h1, h2, _⟩ := s.per hx
  have e : n = n % Lw.per f x + Lw.per f x * (n / Lw.per f x) := (Nat.mod_add_div n _).symm
  conv => lhs; rw [e, itr_add, itr_mul h2]
theorem mem_orb (s : Stp f P B) {x y : α} (hx : P x) : y ∈ orb f x ↔ ∃ n, itr f n x = y := by
  unfold orb
  rw [List.mem_map]
  constructor
  · rintro ⟨n, _, h⟩; exact ⟨n, h⟩
  · rintro ⟨n, h⟩
    refine ⟨n % per f x, List.mem_range.mpr (Nat.mod_lt _ (s.per hx).1), ?_⟩
    rw [← s.mod hx, h]
theorem orb_P (s : Stp f P B) {x y : α} (hx : P x) (h : y ∈ orb f x) : P y := by
  obtain ⟨n, rfl⟩ := (mem_orb s hx).mp h
  exact s.itr hx n
theorem orb_symm (s : Stp f P B) {x y : α} (hx : P x) (h : y ∈ orb f x) : x ∈ orb f y := by
  have hy := orb_P s hx h
  obtain ⟨n, rfl⟩ := (mem_orb s hx).mp h
  obtain ⟨h1, h2, _⟩ := s.per hx
  refine (mem_orb s hy).mpr ⟨per f x * (n + 1) - n, ?_⟩
  have : n ≤ per f x * (n + 1) := Nat.le_trans (Nat.le_succ n) (Nat.le_mul_of_pos_left _ h1)
  rw [← itr_add, Nat.sub_add_cancel this, itr_mul h2]
end
/-- pigeonhole: a one-to-one step on [0, N) comes back -/
theorem nodup_len : ∀ (n : Nat) (l : List Nat), l.Nodup → (∀ x ∈ l, x < n) → l.length ≤ n
  | 0, [], _, _ => Nat.le_refl _
  | 0, x :: l, _, h => absurd (h x (by simp)) (by omega)
  | n + 1, l, hn, h => by
    have h1 := nodup_len n (l.filter (· ≠ n)) (hn.filter _) (fun x hx => by
      obtain ⟨h1, h2⟩ := List.mem_filter.mp hx
      have := h x h1
      simp at h2
      omega)
    have h2 : l.length = (l.filter (· ≠ n)).length + (l.filter (fun x => !decide (x ≠ n))).length := by
      rw [← List.countP_eq_length_filter, ← List.countP_eq_length_filter]
      have h := List.length_eq_countP_add_countP (fun x => decide (x ≠ n)) (l := l)
      rw [h]
      congr 1
      exact List.countP_congr fun x _ => by by_cases hx : x = n <;> simp [hx]
    have h3 : (l.filter (fun x => !decide (x ≠ n))).length ≤ 1 := by
      have e : l.filter (fun x => !decide (x ≠ n)) = l.filter (· == n) := List.filter_congr fun x _ => by by_cases hx : x = n <;> simp [hx]
      rw [e, ← List.countP_eq_length_filter]
      exact List.nodup_iff_count.mp hn n
    omega
theorem stp_of {α : Type} {f : α → α} {P : α → Prop} {N : Nat} (code : α → Nat) (hc : ∀ x, P x → code x < N) (hi : ∀ x y, P x → P y → code x = code y → x = y) (cl : ∀ x, P x → P (f x)) (inj : ∀ x y, P x → P y → f x = f y → x = y) : Stp f P N := by
  have it : ∀ x, P x → ∀ n, P (itr f n x) := fun x hx n => by
    induction n with
    | zero => exact hx
    | succ n ih => exact cl _ ih
  have itinj : ∀ x y, P x → P y → ∀ n, itr f n x = itr f n y → x = y := fun x y hx hy n => by
    induction n with
    | zero => exact id
    | succ n ih => exact fun h => ih (inj _ _ (it x hx n) (it y hy n) h)
  refine ⟨cl, inj, fun x hx => ?_⟩
  apply Classical.byContradiction
  intro hno
  have hl := nodup_len N ((List.range (N + 1)).map fun n => code (itr f n x)) (by
    rw [List.nodup_iff_pairwise_ne, List.pairwise_map]
    refine List.Pairwise.imp_of_mem (R := (· < ·)) (fun {a b} ha hb hab h => ?_) List.pairwise_lt_range
    have e := hi _ _ (it x hx a) (it x hx b) h
    have e2 : b = a + (b - a) := by omega
    rw [e2, itr_add] at e
    have := itinj _ _ hx (it x hx _) a e
    exact hno ⟨b - a, by omega, by have := List.mem_range.mp hb; omega, this.symm⟩) (fun y hy => by
    obtain ⟨n, _, rfl⟩ := List.mem_map.mp hy
    exact hc _ (it x hx n))
  simp at hl
  omega
end Lw
end

section
namespace Lw
open PySem DL
/-- onward -/
def onF (ts : List (Int × Int)) (rows : List (List Int)) (k : Nat) : Nat := nxF ts rows (ptn k)
section
variable {m : Int} {ts : List (Int × Int)} {rows : List (List Int)}
end
section
variable {f : Nat → Nat} {P : Nat → Prop} {B : Nat}
/-- a round's least one -/
def isLo (f : Nat → Nat) (x : Nat) : Prop := ∀ y ∈ orb f x, x ≤ y
end
end Lw
end

section
namespace Lw
open PySem DL
theorem alike_i {a b : Int} : W.alike (.int a) (.int b) = true := by simp [W.alike]
/-- natural numbers as data -/
def intsN (l : List Nat) : List Int := l.map fun n : Nat => (n : Int)
def tupN (l : List Nat) : D := .tuple ((intsN l).map .int)
section
variable {m : Int} {ts : List (Int × Int)} {rows : List (List Int)}
end
end Lw
end

section
namespace Lw
open PySem DL
def loneN (rows : List (List Int)) : List (List Nat) := (rows.filter (·.isEmpty)).map fun _ => []
end Lw
end

section
namespace Lw
open PySem DL
section
variable {f : Nat → Nat} {N B : Nat}
open Classical in
noncomputable def repsN (f : Nat → Nat) (k : Nat) : List Nat := (List.range k).filter fun x => decide (isLo f x)
/-- what is met ahead of the k-th -/
structure MetI (f : Nat → Nat) (N : Nat) (k c : Nat) (kvs : List (Ky × D)) : Prop where
  len : kvs.length ≤ c
  mem : ∀ y, y < N → ((valD kvs (.inl (y : Int))).isSome = true ↔ ∃ z ∈ orb f y, z < k)
theorem MetI.lo (s : Stp f (· < N) B) {k c : Nat} {kvs : List (Ky × D)} (h : MetI f N k c kvs) (hk : k < N) (hm : (valD kvs (.inl (k : Int))).isSome = false) : isLo f k := fun y hy => by
  by_cases hlt : y < k
  · have := (h.mem k hk).mpr ⟨y, hy, hlt⟩
    rw [hm] at this
    cases this
  · omega
/-- while a round is put down -/
structure MetJ (f : Nat → Nat) (N : Nat) (k j c : Nat) (kvs : List (Ky × D)) : Prop where
  len : kvs.length ≤ c + j
  mem : ∀ y, y < N → ((valD kvs (.inl (y : Int))).isSome = true ↔ (∃ z ∈ orb f y, z < k) ∨ ∃ i, i < j ∧ itr f i k = y)
theorem MetJ.start {k c : Nat} {kvs : List (Ky × D)} (h : MetI f N k c kvs) : MetJ f N k 0 c kvs := ⟨h.len, fun y hy => by rw [h.mem y hy]; simp⟩
theorem MetJ.put {k j c : Nat} {kvs : List (Ky × D)} {d : D} (h : MetJ f N k j c kvs) : MetJ f N k (j + 1) c (putD kvs (.inl ((itr f j k : Nat) : Int)) d) := by
  refine ⟨Nat.le_trans putD_len (by have := h.len; omega), fun y hy => ?_⟩
  rw [valD_put]
  by_cases e : itr f j k = y
  · subst e
    simp
    exact .inr ⟨j, by omega, rfl⟩
  · have e2 : ¬ ((Sum.inl (y : Int) : Ky) = .inl ((itr f j k : Nat) : Int)) := fun h => e (by have := Sum.inl.inj h; omega)
    rw [if_neg e2, h.mem y hy]
    constructor
    · rintro (h | ⟨i, h1, h2⟩)
      · exact .inl h
      · exact .inr ⟨i, by omega, h2⟩
    · rintro (h | ⟨i, h1, h2⟩)
      · exact .inl h
      · refine .inr ⟨i, ?_, h2⟩
        by_cases hij : i = j
        · subst hij; exact absurd h2 e
        · omega
theorem MetJ.done (s : Stp f (· < N) B) {k c : Nat} {kvs : List (Ky × D)} (hk : k < N) (h : MetJ f N k (per f k) c kvs) : MetI f N (k + 1) (c + per f k) kvs := by
  refine ⟨h.len, fun y hy => ?_⟩
  rw [h.mem y hy]
  constructor
  · rintro (⟨z, h1, h2⟩ | ⟨i, h1, h2⟩)
    · exact ⟨z, h1, by omega⟩
    · exact ⟨k, orb_symm s hk ((mem_orb s hk).mpr ⟨i, h2⟩), by omega⟩
  · rintro ⟨z, h1, h2⟩
    by_cases e : z = k
    · subst e
      have := orb_symm s hy h1
      unfold orb at this
      obtain ⟨i, h3, h4⟩ := List.mem_map.mp this
      exact .inr ⟨i, List.mem_range.mp h3, h4⟩
    · exact .inl ⟨z, h1, by omega⟩
end
/-- the faces found ahead of the k-th end -/
noncomputable def fcsK (ts : List (Int × Int)) (rows : List (List Int)) (k : Nat) : List (List Nat) := loneN rows ++ (repsN (onF ts rows) k).map (orb (onF ts rows))
theorem ends_of_ok {m : Int} {ts : List (Int × Int)} (hl : ts.length ≤ 10000) : Oks sem_ends_of_168e [.fz (webD m ts)] fun v ys => v = .ok (.val (.int (2 * ts.length : Nat))) ∧ ys = [.fz (webD m ts)] := by
  refine oks_def rfl ?_
  have : SmM 2 (ts.length : Int) := smM_of (by omega) (by omega)
  simp [-getElem?_pos, -getElem?_neg, List.getElem?_cons_zero, List.getElem?_cons_succ, b_ends_of_168e, webD, this]
section
variable {m : Int} {ts : List (Int × Int)} {rows : List (List Int)}
end
end Lw
end

section
namespace Lw
open PySem DL
section
variable {m : Int} {ts : List (Int × Int)} {rows : List (List Int)}
end
end Lw
end

section
namespace Lw
open PySem DL
section
variable {m : Int} {ts : List (Int × Int)} {rows : List (List Int)}
end
end Lw
end

section
namespace Lw
open PySem DL
noncomputable def facesD (ts : List (Int × Int)) (rows : List (List Int)) : List D := srtD ((fcsK ts rows (2 * ts.length)).map tupN)
section
variable {m : Int} {ts : List (Int × Int)} {rows : List (List Int)}
end
end Lw
end

section
namespace Lw
open PySem DL
end Lw
end

section
namespace Lw
open PySem DL
@[simp] theorem gAdd_ol {xs ys : List D} : gAdd [.ow (.lst xs), .fz (.list ys)] = if xs.length + ys.length ≤ lineD then some (.new (.lst (xs ++ ys))) else none := rfl
theorem rng_ints (m : Int) : rng 0 m = ((List.range m.toNat).map fun k : Nat => (k : Int)).map PyData.int := by
  unfold rng
  simp
end Lw
end

section
namespace Lw
open PySem DL
theorem leInt (a b : Int) : W.dataLe false id (.int a) (.int b) = decide (a ≤ b) := by
  have := congrFun (congrFun (W.dataLe_int (β := Int) id) a) b
  exact this
theorem srtD_ints (ns : List Int) : srtD (ns.map .int) = (ns.mergeSort fun a b => decide (a ≤ b)).map PyData.int := by
  unfold srtD
  exact (List.map_mergeSort fun a _ b _ => (leInt a b).symm).symm
theorem srt_pwI (L : List Int) : (L.mergeSort fun a b => decide (a ≤ b)).Pairwise fun a b => decide (a ≤ b) = true :=
  List.pairwise_mergeSort (fun a b c h1 h2 => by simp only [decide_eq_true_eq] at *; omega) (fun a b => by
    have := Int.le_total a b
    simpa using this) L
theorem srtOk_ints (ns : List Int) : srtOk (ns.map .int) = true := by
  unfold srtOk
  have h1 : (ns.map PyData.int).all okE = true := all_okE_ints
  have h2 : ((ns.map PyData.int).all fun d => (ns.map PyData.int).all fun e => W.alike d e) = true := by
    rw [List.all_map]
    refine List.all_eq_true.mpr fun a _ => ?_
    show ((ns.map PyData.int).all fun e => W.alike (.int a) e) = true
    rw [List.all_map]
    exact List.all_eq_true.mpr fun b _ => alike_i (a := a) (b := b)
  have h3 : (ns.map PyData.int).all notTN = true := by
    rw [List.all_map]
    exact List.all_eq_true.mpr fun a _ => rfl
  simp only [h1, h2, h3, Bool.true_or, Bool.or_true, Bool.and_self]
end Lw
end

section
namespace Lw
open PySem DL
theorem lay_all {xs : List D} (h : ∀ d ∈ xs, d.canLay0 = true) : PyData.canLayAll0 xs = true := by
  induction xs with
  | nil => simp [PyData.canLayAll0]
  | cons x xs ih => simp [PyData.canLayAll0, h x (by simp), ih fun d hd => h d (by simp [hd])]
theorem dep_all {xs : List D} {k : Nat} (h : ∀ d ∈ xs, d.depth ≤ k) : PyData.depthAll xs ≤ k := by
  induction xs with
  | nil => simp [PyData.depthAll]
  | cons x xs ih =>
    simp only [PyData.depthAll]
    exact Nat.max_le.mpr ⟨h x (by simp), ih fun d hd => h d (by simp [hd])⟩
theorem SmD.lay : ∀ {k : Nat} {d : D}, SmD k d → d.canLay0 = true ∧ d.depth ≤ k
  | k, .int _, _ => by simp [PyData.canLay0, PyData.depth]
  | k + 1, .tuple ds, h => by
    refine ⟨by simp only [PyData.canLay0]; exact lay_all fun d hd => (SmD.lay (h.2 d hd)).1, ?_⟩
    simp only [PyData.depth]
    have := dep_all (k := k) fun d hd => (SmD.lay (h.2 d hd)).2
    omega
  | k + 1, .list ds, h => by
    refine ⟨by simp only [PyData.canLay0]; exact lay_all fun d hd => (SmD.lay (h.2 d hd)).1, ?_⟩
    simp only [PyData.depth]
    have := dep_all (k := k) fun d hd => (SmD.lay (h.2 d hd)).2
    omega
  | 0, .tuple _, h => h.elim
  | 0, .list _, h => h.elim
  | 0, .none, h => h.elim
  | 0, .bool _, h => h.elim
  | 0, .str _, h => h.elim
  | 0, .dict _, h => h.elim
  | _ + 1, .none, h => h.elim
  | _ + 1, .bool _, h => h.elim
  | _ + 1, .str _, h => h.elim
  | _ + 1, .dict _, h => h.elim
theorem SmD.okD {k : Nat} {d : D} (h : SmD k d) (hk : k ≤ 40) : DL.okD d = true ∧ DL.okE d = true := by
  obtain ⟨a, b⟩ := h.lay
  unfold DL.okD DL.okE
  simp [a]
  omega
section
variable {m : Int} {ts : List (Int × Int)} {rows : List (List Int)}
end
end Lw
end

section
namespace Lw
open PySem DL
section
variable {m : Int} {ts : List (Int × Int)} {rows : List (List Int)}
end
end Lw
end

section
namespace Lw
open PySem DL
def rl (lo hi x : Int) : Int := if x = hi then lo else x
def mkAt (ms : List Int) (a : Int) : Int := ms.getD a.toNat 0
def mstep (ms : List Int) (t : Int × Int) : List Int :=
  ms.map (rl (if mkAt ms t.2 < mkAt ms t.1 then mkAt ms t.2 else mkAt ms t.1) (if mkAt ms t.2 > mkAt ms t.1 then mkAt ms t.2 else mkAt ms t.1))
def rangeI (m : Int) : List Int := (List.range m.toNat).map fun k : Nat => (k : Int)
def marks (m : Int) (ts : List (Int × Int)) : List Int := ts.foldl mstep (rangeI m)
theorem mstep_len (ms : List Int) (t : Int × Int) : (mstep ms t).length = ms.length := by simp [mstep]
theorem foldl_len : ∀ (ts : List (Int × Int)) (ms : List Int), (ts.foldl mstep ms).length = ms.length
  | [], _ => rfl
  | t :: ts, ms => by rw [List.foldl_cons, foldl_len ts, mstep_len]
theorem marks_len (m : Int) (ts : List (Int × Int)) : (marks m ts).length = m.toNat := by
  unfold marks
  rw [foldl_len]
  simp [rangeI]
theorem mkAt_ok {ms : List Int} {a : Int} (h0 : 0 ≤ a) (h1 : a < ms.length) : ixP (ms.map PyData.int) a = some (.int (mkAt ms a)) ∧ ms[a.toNat]? = some (mkAt ms a) := by
  have hg : ms[a.toNat]? = some (mkAt ms a) := by
    unfold mkAt
    rw [List.getD_eq_getElem?_getD, List.getElem?_eq_getElem (by omega)]
    rfl
  exact ⟨ixP_pos h0 (by rw [List.getElem?_map, hg]; rfl), hg⟩
theorem marks_take (m : Int) (ts : List (Int × Int)) {q : Nat} {t : Int × Int} (h : ts[q]? = some t) : marks m (ts.take (q + 1)) = mstep (marks m (ts.take q)) t := by
  unfold marks
  rw [List.take_add_one, h]
  simp [List.foldl_append]
/-- the lists of places with one mark, by the marks -/
def grp (ms : List Int) (f : Int) : List Int := ((List.range ms.length).filter fun p : Nat => mkAt ms (p : Int) == f).map fun p : Nat => (p : Int)
def partsI (ms : List Int) : List (List Int) := (dsort ms).map (grp ms)
def lstI (l : List Int) : D := .list (l.map .int)
def partsD (m : Int) (ts : List (Int × Int)) : List D := (partsI (marks m ts)).map lstI
end Lw
end

section
namespace Lw
open PySem DL
theorem put_keys (kvs : List (Ky × List D)) (k : Ky) (d : D) : (putL kvs k d).map (·.1) = if (kvs.any fun kv => decide (kv.1 = k)) = true then kvs.map (·.1) else kvs.map (·.1) ++ [k] := by
  unfold putL
  split
  · rw [List.map_map]
    refine List.map_congr_left fun kv _ => ?_
    simp only [Function.comp]
    split <;> rfl
  · simp
theorem look_map (f n : Int) (d : D) : ∀ kvs : List (Ky × List D), (n = f → (kvs.any fun kv => decide (kv.1 = .inl f)) = true) →
    lookL (kvs.map fun kv => if kv.1 = .inl f then (kv.1, kv.2 ++ [d]) else kv) n = if n = f then lookL kvs f ++ [d] else lookL kvs n
  | [], h => by
    by_cases e : n = f
    · exact absurd (h e) (by simp)
    · rw [if_neg e]; rfl
  | kv :: t, h => by
    by_cases k1 : kv.1 = .inl n
    · by_cases e : n = f
      · subst e
        unfold lookL
        rw [List.map_cons, if_pos k1, List.find?_cons, List.find?_cons]
        simp [k1]
      · have k2 : ¬ kv.1 = .inl f := fun z => e (by rw [k1] at z; exact Sum.inl.inj z)
        unfold lookL
        rw [List.map_cons, if_neg k2, List.find?_cons, List.find?_cons, if_neg e]
        simp [k1]
    · have hk : ((if kv.1 = .inl f then (kv.1, kv.2 ++ [d]) else kv) : Ky × List D).1 = kv.1 := by split <;> rfl
      have ih := look_map f n d t (fun e => by
        have := h e
        rw [List.any_cons, Bool.or_eq_true] at this
        rcases this with z | z
        · simp only [decide_eq_true_eq] at z
          exact absurd (by rw [e]; exact z) k1
        · exact z)
      have l1 : lookL (((if kv.1 = .inl f then (kv.1, kv.2 ++ [d]) else kv) : Ky × List D) :: (t.map fun kv => if kv.1 = .inl f then (kv.1, kv.2 ++ [d]) else kv)) n = lookL (t.map fun kv => if kv.1 = .inl f then (kv.1, kv.2 ++ [d]) else kv) n := by
        unfold lookL
        rw [List.find?_cons]
        simp [hk, k1]
      have l2 : lookL (kv :: t) n = lookL t n := by
        unfold lookL
        rw [List.find?_cons]
        simp [k1]
      rw [List.map_cons, l1, ih, l2]
      by_cases e : n = f
      · subst e
        rw [if_pos rfl, if_pos rfl, l2]
      · rw [if_neg e, if_neg e]
theorem look_put (kvs : List (Ky × List D)) (f n : Int) (d : D) : lookL (putL kvs (.inl f) d) n = if n = f then lookL kvs f ++ [d] else lookL kvs n := by
  unfold putL
  by_cases h : (kvs.any fun kv => decide (kv.1 = .inl f)) = true
  · rw [if_pos h]
    exact look_map f n d kvs fun _ => h
  · rw [if_neg h]
    have nf : kvs.find? (fun kv => decide (kv.1 = .inl f)) = none := by
      rw [List.find?_eq_none]
      intro kv hk hz
      exact h (List.any_eq_true.mpr ⟨kv, hk, hz⟩)
    by_cases e : n = f
    · subst e
      rw [if_pos rfl]
      unfold lookL
      rw [List.find?_append, nf]
      simp
    · rw [if_neg e]
      unfold lookL
      rw [List.find?_append]
      cases q : kvs.find? fun kv => decide (kv.1 = .inl n) with
      | some kv => rfl
      | none =>
        have : ¬ f = n := fun z => e z.symm
        simp [this]
structure GrpK (ms : List Int) (k : Nat) (kvs : List (Ky × List D)) (ns : List Int) : Prop where
  keys : kvs.map (·.1) = ns.map Sum.inl
  nd : ns.Nodup
  mem : ∀ n, n ∈ ns ↔ ∃ p : Nat, p < k ∧ mkAt ms (p : Int) = n
  look : ∀ n ∈ ns, lookL kvs n = (((List.range k).filter fun p : Nat => mkAt ms (p : Int) == n).map fun p : Nat => (p : Int)).map .int
  lens : ∀ kv ∈ kvs, kv.2.length ≤ k
  len : kvs.length ≤ k
theorem GrpK.zero (ms : List Int) : GrpK ms 0 [] [] := ⟨rfl, .nil, fun n => by simp, (fun n (h : n ∈ []) => by cases h), (fun kv (h : kv ∈ []) => by cases h), Nat.le_refl _⟩
theorem GrpK.step {ms : List Int} {k : Nat} {kvs : List (Ky × List D)} {ns : List Int} (h : GrpK ms k kvs ns) : GrpK ms (k + 1) (putL kvs (.inl (mkAt ms (k : Int))) (.int (k : Int))) (if mkAt ms (k : Int) ∈ ns then ns else ns ++ [mkAt ms (k : Int)]) := by
  have hany : ((kvs.any fun kv => decide (kv.1 = .inl (mkAt ms (k : Int)))) = true) ↔ mkAt ms (k : Int) ∈ ns := by
    rw [List.any_eq_true]
    constructor
    · rintro ⟨kv, h1, h2⟩
      have h3 : (Sum.inl (mkAt ms (k : Int)) : Ky) ∈ kvs.map (·.1) := List.mem_map.mpr ⟨kv, h1, by simpa using h2⟩
      rw [h.keys] at h3
      obtain ⟨n, h4, h5⟩ := List.mem_map.mp h3
      rw [← Sum.inl.inj h5]
      exact h4
    · intro h1
      have h3 : (Sum.inl (mkAt ms (k : Int)) : Ky) ∈ kvs.map (·.1) := by rw [h.keys]; exact List.mem_map.mpr ⟨_, h1, rfl⟩
      obtain ⟨kv, h4, h5⟩ := List.mem_map.mp h3
      exact ⟨kv, h4, by simpa using h5⟩
  refine ⟨?_, ?_, fun n => ?_, fun n hn => ?_, fun kv hkv => ?_, ?_⟩
  · rw [put_keys]
    by_cases hm : mkAt ms (k : Int) ∈ ns
    · rw [if_pos (hany.mpr hm), if_pos hm, h.keys]
    · rw [if_neg (fun z => hm (hany.mp z)), if_neg hm, h.keys, List.map_append]
      rfl
  · by_cases hm : mkAt ms (k : Int) ∈ ns
    · rw [if_pos hm]; exact h.nd
    · rw [if_neg hm, List.nodup_append]
      exact ⟨h.nd, by simp, fun a ha b hb e => by simp at hb; subst hb; exact hm (e ▸ ha)⟩
  · have e1 : (∃ p : Nat, p < k + 1 ∧ mkAt ms (p : Int) = n) ↔ (∃ p : Nat, p < k ∧ mkAt ms (p : Int) = n) ∨ mkAt ms (k : Int) = n := by
      constructor
      · rintro ⟨p, h1, h2⟩
        by_cases hp : p = k
        · subst hp; exact .inr h2
        · exact .inl ⟨p, by omega, h2⟩
      · rintro (⟨p, h1, h2⟩ | h2)
        · exact ⟨p, by omega, h2⟩
        · exact ⟨k, by omega, h2⟩
    rw [e1, ← h.mem]
    by_cases hm : mkAt ms (k : Int) ∈ ns
    · rw [if_pos hm]
      exact ⟨.inl, fun z => z.elim id fun z => z ▸ hm⟩
    · rw [if_neg hm, List.mem_append, List.mem_singleton]
      exact ⟨fun z => z.imp id Eq.symm, fun z => z.imp id Eq.symm⟩
  · rw [look_put, List.range_succ, List.filter_append, List.map_append, List.map_append]
    by_cases e : n = mkAt ms (k : Int)
    · rw [if_pos e]
      have e2 : lookL kvs (mkAt ms (k : Int)) = (((List.range k).filter fun p : Nat => mkAt ms (p : Int) == n).map fun p : Nat => (p : Int)).map .int := by
        by_cases hm : mkAt ms (k : Int) ∈ ns
        · rw [← e, h.look n (e ▸ hm)]
        · have no : (List.range k).filter (fun p : Nat => mkAt ms (p : Int) == n) = [] := by
            rw [List.filter_eq_nil_iff]
            intro p hp hz
            exact hm ((h.mem _).mpr ⟨p, List.mem_range.mp hp, by rw [← e]; simpa using hz⟩)
          rw [no]
          have nf : kvs.find? (fun kv => decide (kv.1 = .inl (mkAt ms (k : Int)))) = none := by
            rw [List.find?_eq_none]
            intro kv hk hz
            exact hm (hany.mp (List.any_eq_true.mpr ⟨kv, hk, hz⟩))
          unfold lookL
          rw [nf]
          rfl
      have e3 : (mkAt ms (k : Int) == n) = true := by rw [e]; simp
      rw [e2, List.filter_cons, if_pos e3]
      rfl
    · have hn2 : n ∈ ns := by
        by_cases hm : mkAt ms (k : Int) ∈ ns
        · rw [if_pos hm] at hn; exact hn
        · rw [if_neg hm, List.mem_append, List.mem_singleton] at hn
          exact hn.elim id fun z => absurd z e
      rw [if_neg e, h.look n hn2]
      have : ¬ mkAt ms (k : Int) = n := fun z => e z.symm
      simp [this]
  · unfold putL at hkv
    split at hkv
    · obtain ⟨kv', h1, rfl⟩ := List.mem_map.mp hkv
      have := h.lens kv' h1
      split
      · simp; omega
      · omega
    · rcases List.mem_append.mp hkv with h1 | h1
      · have := h.lens kv h1
        omega
      · simp at h1
        subst h1
        simp
  · have hl := h.len
    unfold putL
    split
    · simp; omega
    · simp; omega
theorem GrpK.done {ms : List Int} {kvs : List (Ky × List D)} {ns : List Int} (h : GrpK ms ms.length kvs ns) : (ns.mergeSort fun a b => decide (a ≤ b)) = dsort ms ∧ (dsort ms).map (lookL kvs) = (dsort ms).map fun n => (grp ms n).map .int := by
  have hmem : ∀ n, n ∈ ns ↔ n ∈ ms := fun n => by
    rw [h.mem]
    constructor
    · rintro ⟨p, h1, h2⟩
      obtain ⟨_, h3⟩ := mkAt_ok (ms := ms) (a := (p : Int)) (by omega) (by omega)
      rw [h2] at h3
      exact List.mem_of_getElem? h3
    · intro hn
      obtain ⟨p, h1, h2⟩ := List.mem_iff_getElem.mp hn
      refine ⟨p, h1, ?_⟩
      unfold mkAt
      rw [List.getD_eq_getElem?_getD, Int.toNat_natCast, List.getElem?_eq_getElem h1, ← h2]
      rfl
  have hs : (ns.mergeSort fun a b => decide (a ≤ b)) = dsort ms := by
    refine dsort_uniq ?_ fun k => by rw [List.mem_mergeSort, hmem]
    have nd : (ns.mergeSort fun a b => decide (a ≤ b)).Nodup := (List.mergeSort_perm ..).nodup_iff.mpr h.nd
    have pw := srt_pwI ns
    have := pw.and (List.nodup_iff_pairwise_ne.mp nd)
    exact this.imp fun h => by
      have h1 := of_decide_eq_true h.1
      have h2 := h.2
      omega
  refine ⟨hs, List.map_congr_left fun n hn => ?_⟩
  rw [dsort_mem, ← hmem] at hn
  exact h.look n hn
end Lw
end

section
namespace Lw
open PySem DL
theorem web_0 {m : Int} {ts : List (Int × Int)} : gIx [.fz (webD m ts), .fz (.int 0)] = some (.val (.int m)) := by
  unfold webD
  rw [gIx_t, ixP_0]
  rfl
section
variable {m : Int} {ts : List (Int × Int)} {rows : List (List Int)}
/-- twice the holes -/
noncomputable def twiceN (m : Int) (ts : List (Int × Int)) (rows : List (List Int)) : Int := 2 * ((partsD m ts).length : Int) - m + (ts.length : Int) - ((facesD ts rows).length : Int)
end
end Lw
end

section
namespace Lw
open PySem DL
def endF (ts : List (Int × Int)) (p : Int) : D → Option D
  | .int e => if plc ts e.toNat = p then some (.int e) else none
  | _ => none
theorem rng0_mem {n : Int} {d : D} (h : d ∈ rng 0 n) : ∃ k : Nat, d = .int k ∧ (k : Int) < n := by
  obtain ⟨k, hk, e⟩ := List.mem_iff_getElem.mp h
  have := rng0_get (n := n) (k := k) (d := d) (by rw [List.getElem?_eq_getElem hk, e])
  exact ⟨k, this⟩
/-- the ends at a place -/
def endsD (ts : List (Int × Int)) (p : Int) : List D := (rng 0 (2 * (ts.length : Int))).filterMap (endF ts p)
theorem ends_at_ok {m p : Int} {ts : List (Int × Int)} (hl : ts.length ≤ 10000) : Oks sem_ends_at_2b9c [.fz (webD m ts), .fz (.int p)] fun v ys => v = .ok (.new (.lst (endsD ts p))) ∧ ys = [.fz (webD m ts), .fz (.int p)] := by
  obtain ⟨_, _, e1, rfl, rfl⟩ := ends_of_ok (m := m) hl
  have lb : (lineD : Nat) = 16777216 := rfl
  refine oks_def rfl ?_
  simp [-getElem?_pos, -getElem?_neg, List.getElem?_cons_zero, List.getElem?_cons_succ, b_ends_at_2b9c, e1, anyPin]
  refine ⟨⟨by omega, by omega⟩, lcK_of (endF ts p) (fun d hd => ?_) ?_ ?_⟩
  · obtain ⟨k, rfl, hk⟩ := rng0_mem hd
    obtain ⟨_, _, e2, rfl, rfl⟩ := place_ok (m := m) (ts := ts) (k := k) (by omega)
    by_cases h : plc ts k = p
    · simp [-getElem?_pos, -getElem?_neg, List.getElem?_cons_zero, List.getElem?_cons_succ, e2, h, endF]
    · simp [-getElem?_pos, -getElem?_neg, List.getElem?_cons_zero, List.getElem?_cons_succ, e2, h, endF]
  · rw [rng0_len, List.length_nil]; omega
  · simp [-getElem?_pos, -getElem?_neg, List.getElem?_cons_zero, List.getElem?_cons_succ, endsD]
end Lw
end

section
namespace Lw
open PySem DL
def TpD : Nat → D → Prop
  | _, .int _ => True
  | k + 1, .tuple ds => ds.length ≤ 1000000 ∧ ∀ d ∈ ds, TpD k d
  | _, _ => False
theorem is_whole_ok {n : Int} : Oks sem_is_whole_637d [.fz (.int n)] fun v ys => v = .ok (.val (.bool true)) ∧ ys = [.fz (.int n)] := by
  refine oks_def rfl ?_
  have a1 : anyTy [.int] (.int n) = some true := rfl
  have a2 : anyTy [.bool] (.int n) = some false := rfl
  simp [-getElem?_pos, -getElem?_neg, List.getElem?_cons_zero, List.getElem?_cons_succ, b_is_whole_637d, a1, a2]
section
variable {m p its m1 m2 : Int} {ts ts1 ts2 : List (Int × Int)}
end
end Lw
end

section
namespace Lw
open PySem DL
section
variable {m p its m1 m2 : Int} {ts ts1 ts2 : List (Int × Int)}
end
end Lw
end

section
namespace Lw
open PySem DL
end Lw
end

section
namespace Lw
open PySem DL
def endsI (ts : List (Int × Int)) (p : Int) : List Int := ((List.range (2 * ts.length)).filter fun e => decide (plc ts e = p)).map fun e : Nat => (e : Int)
theorem endsI_mem {ts : List (Int × Int)} {p e : Int} : e ∈ endsI ts p ↔ 0 ≤ e ∧ e < 2 * ts.length ∧ plc ts e.toNat = p := by
  unfold endsI
  rw [List.mem_map]
  constructor
  · rintro ⟨k, hk, rfl⟩
    rw [List.mem_filter, List.mem_range] at hk
    exact ⟨by omega, by omega, by simpa using hk.2⟩
  · rintro ⟨h0, h1, h2⟩
    exact ⟨e.toNat, by rw [List.mem_filter, List.mem_range]; exact ⟨by omega, by simpa using h2⟩, by omega⟩
theorem endsI_pw (ts : List (Int × Int)) (p : Int) : (endsI ts p).Pairwise (· < ·) := by
  unfold endsI
  rw [List.pairwise_map]
  refine List.Pairwise.imp (R := (· < ·)) (fun {a b} h => by omega) (List.pairwise_lt_range.filter _)
theorem endsI_len (ts : List (Int × Int)) (p : Int) : (endsI ts p).length ≤ 2 * ts.length := by
  unfold endsI
  rw [List.length_map]
  exact Nat.le_trans (List.length_filter_le _ _) (by simp)
theorem endsD_I (ts : List (Int × Int)) (p : Int) : endsD ts p = (endsI ts p).map .int := by
  unfold endsD endsI
  rw [rng_ints, show (2 * (ts.length : Int)).toNat = 2 * ts.length by omega, List.map_map]
  induction (List.range (2 * ts.length)) with
  | nil => rfl
  | cons k l ih =>
    rw [List.map_cons, List.filterMap_cons, List.filter_cons]
    by_cases h : plc ts k = p
    · have : endF ts p ((PyData.int ∘ fun k : Nat => (k : Int)) k) = some (.int (k : Int)) := by simp [endF, h]
      rw [this]
      simp only [h, decide_true, if_true]
      rw [List.map_cons, List.map_cons]
      rw [← ih]
    · have : endF ts p ((PyData.int ∘ fun k : Nat => (k : Int)) k) = none := by simp [endF, h]
      rw [this]
      simp only [h, decide_false]
      exact ih
theorem row_head {ts : List (Int × Int)} {q : Nat} {row : List Int} (h : RowN ts (2 * ts.length) q row) : row.take 1 = (endsI ts q).take 1 := by
  have hm : ∀ k, k ∈ row ↔ k ∈ endsI ts q := fun k => by
    rw [h.mem, endsI_mem]
    constructor <;> (rintro ⟨a, b, c⟩; exact ⟨a, by omega, c⟩)
  cases hr : row with
  | nil =>
    cases he : endsI ts q with
    | nil => rfl
    | cons y ys =>
      have := (hm y).mpr (by rw [he]; simp)
      rw [hr] at this
      cases this
  | cons x xs =>
    cases he : endsI ts q with
    | nil =>
      have := (hm x).mp (by rw [hr]; simp)
      rw [he] at this
      cases this
    | cons y ys =>
      have h1 := h.hd x xs hr
      have hp := endsI_pw ts q
      rw [he] at hp
      have h2 := (List.pairwise_cons.mp hp).1
      have hx := (hm x).mp (by rw [hr]; simp)
      have hy := (hm y).mpr (by rw [he]; simp)
      rw [he] at hx
      rw [hr] at hy
      have : x = y := by
        rcases List.mem_cons.mp hx with q1 | q1
        · exact q1
        · rcases List.mem_cons.mp hy with q2 | q2
          · exact q2.symm
          · have := h1 y q2
            have := h2 x q1
            omega
      simp [this]
end Lw
end

section
namespace Lw
open PySem DL
section
variable {m : Int} {ts : List (Int × Int)}
/-- how many rows a place's ends have; the places ahead together -/
def wR (ts : List (Int × Int)) (p : Nat) : Nat := fct ((endsI ts p).length - 1)
def wP (ts : List (Int × Int)) : Nat → Nat
  | 0 => 1
  | p + 1 => wP ts p * wR ts p
def ordA (ts : List (Int × Int)) : Nat → Nat → List (List Int)
  | 0, _ => []
  | p + 1, n => ordA ts p (n / wR ts p) ++ [rowAt (endsI ts p) (n % wR ts p)]
theorem wR_pos (p : Nat) : 0 < wR ts p := fct_pos _
theorem wP_pos : ∀ p : Nat, 0 < wP ts p
  | 0 => Nat.one_pos
  | p + 1 => Nat.mul_pos (wP_pos p) (wR_pos p)
theorem wP_mono {a b : Nat} (h : a ≤ b) : wP ts a ≤ wP ts b := by
  induction h with
  | refl => exact Nat.le_refl _
  | step _ ih => exact Nat.le_trans ih (Nat.le_mul_of_pos_right _ (wR_pos _))
theorem ordA_len : ∀ p n : Nat, (ordA ts p n).length = p
  | 0, _ => rfl
  | p + 1, n => by
    show (ordA ts p (n / wR ts p) ++ [rowAt (endsI ts p) (n % wR ts p)]).length = _
    rw [List.length_append, ordA_len p]
    rfl
theorem ordA_row : ∀ (p n : Nat) {q : Nat} {row : List Int}, (ordA ts p n)[q]? = some row → ∃ k, k < wR ts q ∧ row = rowAt (endsI ts q) k
  | 0, n, q, row, h => by simp [ordA] at h
  | p + 1, n, q, row, h => by
    have h : (ordA ts p (n / wR ts p) ++ [rowAt (endsI ts p) (n % wR ts p)])[q]? = some row := h
    rcases Nat.lt_trichotomy q p with hq | rfl | hq
    · rw [List.getElem?_append_left (by rw [ordA_len]; exact hq)] at h
      exact ordA_row p _ h
    · rw [List.getElem?_append_right (by rw [ordA_len]; exact Nat.le_refl _), ordA_len, Nat.sub_self] at h
      cases h
      exact ⟨_, Nat.mod_lt _ (wR_pos _), rfl⟩
    · rw [List.getElem?_eq_none (by rw [List.length_append, ordA_len]; simp; omega)] at h
      cases h
theorem rowAt_row {q k : Nat} (h : k < wR ts q) : RowN ts (2 * ts.length) q (rowAt (endsI ts q) k) := by
  have hp := rowAt_perm h
  have pw := endsI_pw ts q
  refine ⟨hp.nodup_iff.mpr (List.nodup_iff_pairwise_ne.mpr (pw.imp fun h => by omega)), fun e => ?_, fun x xs e y hy => ?_, by rw [hp.length_eq]; exact endsI_len ts q⟩
  · rw [hp.mem_iff, endsI_mem]
    constructor
    · rintro ⟨a, b, c⟩; exact ⟨a, by omega, c⟩
    · rintro ⟨a, b, c⟩; exact ⟨a, by omega, c⟩
  · cases hE : endsI ts q with
    | nil =>
      rw [hE] at hp e
      rw [e] at hp
      have := hp.length_eq
      simp at this
    | cons z zs =>
      rw [hE] at hp e pw
      rw [List.pairwise_cons] at pw
      have e : [z] ++ prm ((z :: zs).length - 1) zs k = x :: xs := e
      rw [List.singleton_append] at e
      injection e with e1 e2
      subst e1
      have hp2 : (prm ((z :: zs).length - 1) zs k).Perm zs := prm_perm _ _ _ (by simp) (by
        have h : k < fct ((endsI ts q).length - 1) := h
        rw [hE] at h
        exact h)
      rw [e2] at hp2
      exact pw.1 y (hp2.mem_iff.mp hy)
theorem ordA_ord (hm : 0 ≤ m) (n : Nat) : OrdN m ts (2 * ts.length) (ordA ts m.toNat n) := by
  refine ⟨ordA_len _ _, fun q row h => ?_⟩
  obtain ⟨k, h1, rfl⟩ := ordA_row _ _ h
  exact rowAt_row h1
end
end Lw
end

section
namespace Lw
open PySem DL
set_option exponentiation.threshold 400
theorem rng_get2 {lo hi : Int} {k : Nat} {d : D} (h : (rng lo hi)[k]? = some d) : d = .int (lo + k) ∧ k < (hi - lo).toNat := by
  unfold rng at h
  rw [List.getElem?_map] at h
  obtain ⟨x, h1, rfl⟩ := Option.map_eq_some_iff.mp h
  obtain ⟨h2, h3⟩ := List.getElem?_eq_some_iff.mp h1
  rw [List.getElem_range] at h3
  subst h3
  exact ⟨rfl, by simpa using h2⟩
theorem rng_len2 {lo hi : Int} : (rng lo hi).length = (hi - lo).toNat := by simp [rng]
theorem log2_le {a : Int} {n : Nat} (h0 : 0 ≤ a) (h : a < 2 ^ n) (hn : 0 < n) : a.natAbs.log2 < n := by
  by_cases z : a.natAbs = 0
  · rw [z]; simpa using hn
  · rw [Nat.log2_lt z]
    have : ((a.natAbs : Nat) : Int) < ((2 ^ n : Nat) : Int) := by
      rw [Int.natAbs_of_nonneg h0]
      push_cast
      exact h
    exact Int.ofNat_lt.mp this
def RmI (n : Nat) (k : Nat) (r : Ro) : Prop := ∃ x2, r = [.frz false (.int n), .frz false (.int (fct (k + 1) : Nat)), x2] ∧ Fr x2
theorem rows_many_ok {n : Nat} (hn : n ≤ 48) : Oks sem_rows_many_c3e5 [.fz (.int n)] fun v ys => v = .ok (.val (.int (fct (n - 1) : Nat))) ∧ ys = [.fz (.int n)] := by
  have o1 : -4611686018427387904 ≤ (n : Int) := by omega
  have o2 : (n : Int) < 4611686018427387904 := by omega
  refine oks_def rfl ?_
  simp [-getElem?_pos, -getElem?_neg, List.getElem?_cons_zero, List.getElem?_cons_succ, b_rows_many_c3e5, o1, o2]
  refine forS_inv (RmI n) (rng 2 n) 0 _ ?_ (fun k d r hd hI => ?_) (fun r hI => ?_)
  · exact ⟨_, rfl, .non⟩
  · obtain ⟨rfl, hk⟩ := rng_get2 hd
    rw [Nat.zero_add] at hI ⊢
    obtain ⟨x2, rfl, h2⟩ := hI
    have hf : fct (k + 1) ≤ 2 ^ 200 := fct_small (by omega)
    have hf2 : ((fct (k + 1) : Nat) : Int) ≤ 2 ^ 200 := by
      have : ((fct (k + 1) : Nat) : Int) ≤ ((2 ^ 200 : Nat) : Int) := Int.ofNat_le.mpr hf
      simpa using this
    have s1 : SmM ((fct (k + 1) : Nat) : Int) (2 + (k : Int)) := smM_of ⟨by omega, hf2⟩ (by omega)
    have e1 : ((fct (k + 1) : Nat) : Int) * (2 + (k : Int)) = ((fct (k + 1 + 1) : Nat) : Int) := by
      show _ = (((k + 1 + 1) * fct (k + 1) : Nat) : Int)
      rw [Int.natCast_mul, Int.mul_comm]
      congr 1
      omega
    simp [-getElem?_pos, -getElem?_neg, List.getElem?_cons_zero, List.getElem?_cons_succ, h2.pin, h2.al, s1, e1]
    exact ⟨_, rfl, .frz⟩
  · obtain ⟨x2, rfl, h2⟩ := hI
    have e2 : fct (0 + (rng 2 (n : Int)).length + 1) = fct (n - 1) := by
      rw [rng_len2]
      by_cases h : 2 ≤ n
      · congr 1; omega
      · have : n = 0 ∨ n = 1 := by omega
        rcases this with rfl | rfl <;> rfl
    rw [e2]
    simp [-getElem?_pos, -getElem?_neg, List.getElem?_cons_zero, List.getElem?_cons_succ]
section
variable {m : Int} {ts : List (Int × Int)}
def OmI (m : Int) (ts : List (Int × Int)) (k : Nat) (r : Ro) : Prop := ∃ x2, r = [.frz false (webD m ts), .frz false (.int (wP ts k : Nat)), x2] ∧ Fr x2
theorem ends_mul_lo {a b : Nat} (h : a ≤ 2 ^ 300) (h2 : b ≤ 2 ^ 200) : SmM (a : Int) (b : Int) := by
  have e1 := log2_le (a := (a : Int)) (n := 301) (by omega) (by
    have : ((a : Nat) : Int) < ((2 ^ 301 : Nat) : Int) := Int.ofNat_lt.mpr (Nat.lt_of_le_of_lt h (by decide +kernel))
    simpa using this) (by omega)
  have e2 := log2_le (a := (b : Int)) (n := 201) (by omega) (by
    have : ((b : Nat) : Int) < ((2 ^ 201 : Nat) : Int) := Int.ofNat_lt.mpr (Nat.lt_of_le_of_lt h2 (by decide +kernel))
    simpa using this) (by omega)
  unfold SmM
  omega
theorem orders_many_ok (hm : 0 ≤ m ∧ m ≤ 1000) (hl : ts.length ≤ 24) (hB : wP ts m.toNat ≤ 2 ^ 300) : Oks sem_orders_many_0e37 [.fz (webD m ts)] fun v ys => v = .ok (.val (.int (wP ts m.toNat : Nat))) ∧ ys = [.fz (webD m ts)] := by
  have o1 : -4611686018427387904 ≤ m := by omega
  have o2 : m < 4611686018427387904 := by omega
  refine oks_def rfl ?_
  simp [-getElem?_pos, -getElem?_neg, List.getElem?_cons_zero, List.getElem?_cons_succ, b_orders_many_0e37, web_0, o1, o2]
  refine forS_inv (OmI m ts) (rng 0 m) 0 _ ?_ (fun k d r hd hI => ?_) (fun r hI => ?_)
  · exact ⟨_, rfl, .non⟩
  · obtain ⟨rfl, hk⟩ := rng0_get hd
    rw [Nat.zero_add] at hI ⊢
    obtain ⟨x2, rfl, h2⟩ := hI
    obtain ⟨_, _, e1, rfl, rfl⟩ := ends_at_ok (m := m) (p := (k : Int)) (ts := ts) (by omega)
    rw [endsD_I] at e1
    have hel := endsI_len ts (k : Int)
    obtain ⟨_, _, e2, rfl, rfl⟩ := rows_many_ok (n := (endsI ts (k : Int)).length) (by omega)
    have h1 : wP ts k ≤ 2 ^ 300 := Nat.le_trans (wP_mono (by omega)) hB
    have s1 : SmM ((wP ts k : Nat) : Int) ((fct ((endsI ts (k : Int)).length - 1) : Nat) : Int) := ends_mul_lo h1 (fct_small (by omega))
    have e3 : ((wP ts k : Nat) : Int) * ((fct ((endsI ts (k : Int)).length - 1) : Nat) : Int) = ((wP ts (k + 1) : Nat) : Int) := by
      rw [← Int.natCast_mul]
      rfl
    simp [-getElem?_pos, -getElem?_neg, List.getElem?_cons_zero, List.getElem?_cons_succ, h2.pin, h2.al, e1, e2, s1, e3]
    exact ⟨_, rfl, .frz⟩
  · obtain ⟨x2, rfl, h2⟩ := hI
    rw [rng0_len, Nat.zero_add]
    simp [-getElem?_pos, -getElem?_neg, List.getElem?_cons_zero, List.getElem?_cons_succ]
theorem er_map : ∀ (l : List Int) (q : Nat), (l.eraseIdx q).map PyData.int = (l.map PyData.int).eraseIdx q
  | [], _ => rfl
  | x :: xs, 0 => rfl
  | x :: xs, q + 1 => by
    rw [List.eraseIdx_cons_succ, List.map_cons, List.map_cons, List.eraseIdx_cons_succ, er_map xs q]
/-- the rest of a row, end by end -/
def RaI (E : List Int) (N : Nat) (k : Nat) (r : Ro) : Prop := ∃ (l acc : List Int) (n : Nat) (x4 : Sl), r = [.own true (.lst (E.map .int)), .frz false (.int n), .own false (.lst (l.map .int)), .own false (.lst (acc.map .int)), x4] ∧ Fr x4 ∧ l.length + k = E.length - 1 ∧ acc.length + l.length = E.length ∧ n < fct l.length ∧ acc ++ prm l.length l n = rowAt E N
theorem row_at_ok {E : List Int} {N : Nat} (hE : E.length ≤ 48) (hN : N < fct (E.length - 1)) : Oks sem_row_at_886b [.ow (.lst (E.map .int)), .fz (.int N)] fun v ys => v = .ok (.val (.tuple ((rowAt E N).map .int))) ∧ ys = [.ow (.lst (E.map .int)), .fz (.int N)] := by
  have lb : (lineD : Nat) = 16777216 := rfl
  refine oks_def rfl ?_
  simp [-getElem?_pos, -getElem?_neg, List.getElem?_cons_zero, List.getElem?_cons_succ, b_row_at_886b]
  refine while_inv (RaI E N) 48 ?_ fun k r hI => ?_
  · refine ⟨E.drop 1, E.take 1, N, _, ?_, .non, by rw [List.length_drop]; omega, by rw [List.length_take, List.length_drop]; omega, by rw [List.length_drop]; exact hN, by rw [List.length_drop]; rfl⟩
    rw [List.map_drop, List.map_take, List.drop_one]
  · obtain ⟨l, acc, n, x4, rfl, h4, hk, hc, hn, he⟩ := hI
    by_cases hl : 0 < l.length
    · obtain ⟨j, hj⟩ : ∃ j, l.length = j + 1 := ⟨l.length - 1, by omega⟩
      have hl2 : ¬ l = [] := fun h => by rw [h] at hl; simp at hl
      obtain ⟨_, _, e1, rfl, rfl⟩ := rows_many_ok (n := l.length) (by omega)
      rw [hj, Nat.add_sub_cancel] at e1
      rw [← hj] at e1
      have hn : n < (j + 1) * fct j := by rw [hj] at hn; exact hn
      have hq : n / fct j < j + 1 := (Nat.div_lt_iff_lt_mul (fct_pos j)).mpr hn
      have f0 := fct_pos j
      have f1 : fct j ≤ 2 ^ 200 := fct_small (by omega)
      have s1 : DL.SmD ((fct j : Nat) : Int) := smD_of (by
        have : ((fct j : Nat) : Int) ≤ ((2 ^ 200 : Nat) : Int) := Int.ofNat_le.mpr f1
        exact ⟨by omega, by simpa using this⟩)
      have d1 : (n : Int) / ((fct j : Nat) : Int) = ((n / fct j : Nat) : Int) := by rw [Int.natCast_ediv]
      have d2 : (n : Int) % ((fct j : Nat) : Int) = ((n % fct j : Nat) : Int) := by rw [Int.natCast_emod]
      have he2 : prm (j + 1) l n = match l[n / fct j]? with
        | some x => x :: prm j (l.eraseIdx (n / fct j)) (n % fct j)
        | none => [] := rfl
      have hr : n % fct j < fct j := Nat.mod_lt _ f0
      generalize n / fct j = q at *
      generalize n % fct j = n2 at *
      have ix : ixD (l.map PyData.int).length (q : Int) = some q := ixD_nat (by rw [List.length_map]; omega)
      have hx : l[q]? = some (l[q]'(by omega)) := List.getElem?_eq_getElem (by omega)
      generalize l[q]'(by omega) = x at hx
      rw [hx] at he2
      have o3 : -9223372036854775808 ≤ (q : Int) := by omega
      have o4 : (q : Int) < 9223372036854775808 := by omega
      have o5 : acc.length < lineD := by omega
      have o6 : ((0 : Int) < ((fct j : Nat) : Int)) := by omega
      have hm2 : (l.map PyData.int)[q]? = some (.int x) := by rw [List.getElem?_map, hx]; rfl
      rw [List.length_map] at ix
      simp [-getElem?_pos, -getElem?_neg, List.getElem?_cons_zero, List.getElem?_cons_succ, h4.pin, h4.al, hl, hl2, e1, s1, d1, d2, ix, hx, hm2, o3, o4, o5, f0]
      have hel : (l.eraseIdx q).length = j := by rw [List.length_eraseIdx, if_pos (by omega)]; omega
      have eA : List.map PyData.int acc ++ [PyData.int x] = (acc ++ [x]).map .int := by rw [List.map_append]; rfl
      rw [← er_map, eA]
      exact ⟨by omega, l.eraseIdx q, acc ++ [x], n2, _, rfl, .frz, by omega, by rw [List.length_append, hel]; simp; omega, by rw [hel]; exact hr, by
        rw [← he, hj, hel, he2]
        simp⟩
    · have hl2 : l = [] := List.eq_nil_of_length_eq_zero (by omega)
      subst hl2
      simp [-getElem?_pos, -getElem?_neg, List.getElem?_cons_zero, List.getElem?_cons_succ, h4.pin, h4.al]
      rw [← he]
      simp [prm]
/-- the order of a number, from the last place on -/
def OaI (m : Int) (ts : List (Int × Int)) (N : Nat) (k : Nat) (r : Ro) : Prop := ∃ (n : Nat) (R : List (List Int)) (x3 x4 x5 : Sl), r = [.frz false (webD m ts), .frz false (.int n), .own false (.lst (R.map fun row => .tuple (row.map .int))), x3, x4, x5] ∧ Fr x3 ∧ Fr x4 ∧ Fr x5 ∧ k ≤ m.toNat ∧ R.length = k ∧ n < wP ts (m.toNat - k) ∧ ordA ts (m.toNat - k) n ++ R.reverse = ordA ts m.toNat N
end
end Lw
end

section
namespace Lw
open Classical in
noncomputable def cnt (N : Nat) (P : Nat → Prop) : Nat := ((List.range N).filter fun x => decide (P x)).length
/-- classes that become one -/
structure Eqv (N : Nat) (R : Nat → Nat → Prop) : Prop where
  rf : ∀ x, x < N → R x x
  sy : ∀ x y, x < N → y < N → R x y → R y x
  tr : ∀ x y z, x < N → y < N → z < N → R x y → R y z → R x z
def SOr (f : Nat → Nat) (x y : Nat) : Prop := ∃ n, itr f n x = y
section
variable {f : Nat → Nat} {N B : Nat}
def swp (a b x : Nat) : Nat := if x = a then b else if x = b then a else x
theorem swp_a (a b : Nat) : swp a b a = b := by simp [swp]
theorem swp_b (a b : Nat) : swp a b b = a := by unfold swp; split <;> simp_all
theorem swp_o {a b x : Nat} (h : x ≠ a) (h2 : x ≠ b) : swp a b x = x := by simp [swp, h, h2]
theorem swp_swp (a b x : Nat) : swp a b (swp a b x) = x := by
  by_cases h : x = a
  · subst h; rw [swp_a, swp_b]
  · by_cases h2 : x = b
    · subst h2; rw [swp_b, swp_a]
    · rw [swp_o h h2, swp_o h h2]
theorem swp_lt {a b x N : Nat} (ha : a < N) (hb : b < N) (hx : x < N) : swp a b x < N := by
  unfold swp
  split
  · exact hb
  · split
    · exact ha
    · exact hx
/-- two things exchanged ahead of the step -/
def fsw (f : Nat → Nat) (a b : Nat) : Nat → Nat := fun x => f (swp a b x)
theorem fsw_stp (s : Stp f (· < N) B) {a b : Nat} (ha : a < N) (hb : b < N) : Stp (fsw f a b) (· < N) N := by
  refine stp_of id (fun x h => h) (fun x y _ _ h => h) (fun x hx => s.cl _ (swp_lt ha hb hx)) fun x y hx hy h => ?_
  have := s.inj _ _ (swp_lt ha hb hx) (swp_lt ha hb hy) h
  have := congrArg (swp a b) this
  rwa [swp_swp, swp_swp] at this
end
end Lw
end

section
namespace Lw
def pt2 (x : Nat) : Nat := swp (2 * (x / 2)) (2 * (x / 2) + 1) x
/-- the step, the first k ties gone along -/
def fK (σ : Nat → Nat) (k : Nat) (x : Nat) : Nat := σ (if x / 2 < k then pt2 x else x)
theorem fK_zero (σ : Nat → Nat) : fK σ 0 = σ := by
  funext x
  simp [fK]
theorem fK_succ (σ : Nat → Nat) (k : Nat) : fK σ (k + 1) = fsw (fK σ k) (2 * k) (2 * k + 1) := by
  funext x
  show σ _ = fK σ k (swp (2 * k) (2 * k + 1) x)
  by_cases h1 : x = 2 * k
  · subst h1
    rw [swp_a, if_pos (by omega)]
    unfold fK pt2
    rw [if_neg (by omega), show 2 * (2 * k / 2) = 2 * k by omega, swp_a]
  · by_cases h2 : x = 2 * k + 1
    · subst h2
      rw [swp_b, if_pos (by omega)]
      unfold fK pt2
      rw [if_neg (by omega), show 2 * ((2 * k + 1) / 2) = 2 * k by omega, swp_b]
    · rw [swp_o h1 h2]
      unfold fK
      by_cases h3 : x / 2 < k
      · rw [if_pos h3, if_pos (by omega)]
      · rw [if_neg h3, if_neg (by omega)]
/-- places that hang together by the first k ties -/
structure Hang (n m : Nat) (pl : Nat → Nat) (R : Nat → Nat → Nat → Prop) : Prop where
  eqv : ∀ k, k ≤ n → Eqv m (R k)
  zero : ∀ x y, x < m → y < m → (R 0 x y ↔ x = y)
  succ : ∀ k, k < n → ∀ x y, x < m → y < m → (R (k + 1) x y ↔ R k x y ∨ (R k x (pl (2 * k)) ∧ R k (pl (2 * k + 1)) y) ∨ (R k x (pl (2 * k + 1)) ∧ R k (pl (2 * k)) y))
section
variable {σ pl : Nat → Nat} {n m B : Nat} {R : Nat → Nat → Nat → Prop} {A : Nat → Prop}
theorem pt2_lt {x : Nat} (h : x < 2 * n) : pt2 x < 2 * n := swp_lt (by omega) (by omega) h
theorem fK_stp (s : Stp σ (· < 2 * n) B) : ∀ k, k ≤ n → Stp (fK σ k) (· < 2 * n) (max B (2 * n))
  | 0, _ => by
    rw [fK_zero]
    exact ⟨s.cl, s.inj, fun x hx => by obtain ⟨i, h1, h2, h3⟩ := s.ret x hx; exact ⟨i, h1, by omega, h3⟩⟩
  | k + 1, h => by
    rw [fK_succ]
    have := fsw_stp (fK_stp s k (by omega)) (a := 2 * k) (b := 2 * k + 1) (by omega) (by omega)
    exact ⟨this.cl, this.inj, fun x hx => by obtain ⟨i, h1, h2, h3⟩ := this.ret x hx; exact ⟨i, h1, by omega, h3⟩⟩
theorem Hang.tie (h : Hang n m pl R) (hp : ∀ x, x < 2 * n → pl x < m) : ∀ k, k ≤ n → ∀ j, j < k → R k (pl (2 * j)) (pl (2 * j + 1))
  | k + 1, hk, j, hj => by
    have h0 := hp (2 * j) (by omega)
    have h1 := hp (2 * j + 1) (by omega)
    rw [h.succ k (by omega) _ _ h0 h1]
    by_cases e : j = k
    · subst e
      exact .inr (.inl ⟨(h.eqv j (by omega)).rf _ h0, (h.eqv j (by omega)).rf _ h1⟩)
    · exact .inl (h.tie hp k (by omega) j (by omega))
/-- a step keeps within what hangs together -/
theorem Hang.step (h : Hang n m pl R) (s : Stp σ (· < 2 * n) B) (hp : ∀ x, x < 2 * n → pl x < m) (hs : ∀ x, x < 2 * n → pl (σ x) = pl x) {k : Nat} (hk : k ≤ n) {x : Nat} (hx : x < 2 * n) : R k (pl x) (pl (fK σ k x)) := by
  have e := h.eqv k hk
  unfold fK
  split
  · rename_i hlt
    rw [hs _ (pt2_lt hx)]
    have ht := h.tie hp k hk (x / 2) hlt
    have h0 := hp (2 * (x / 2)) (by omega)
    have h1 := hp (2 * (x / 2) + 1) (by omega)
    unfold pt2
    by_cases e1 : x = 2 * (x / 2)
    · have : swp (2 * (x / 2)) (2 * (x / 2) + 1) x = 2 * (x / 2) + 1 := by unfold swp; rw [if_pos e1]
      rw [this]
      rw [← e1] at ht ⊢
      exact ht
    · have e2 : x = 2 * (x / 2) + 1 := by omega
      have : swp (2 * (x / 2)) (2 * (x / 2) + 1) x = 2 * (x / 2) := by unfold swp; rw [if_neg e1, if_pos e2]
      rw [this]
      have ht := e.sy _ _ h0 h1 ht
      rw [← e2] at ht
      exact ht
  · rw [hs x hx]
    exact e.rf _ (hp x hx)
theorem Hang.so (h : Hang n m pl R) (s : Stp σ (· < 2 * n) B) (hp : ∀ x, x < 2 * n → pl x < m) (hs : ∀ x, x < 2 * n → pl (σ x) = pl x) {k : Nat} (hk : k ≤ n) {x y : Nat} (hx : x < 2 * n) (hxy : SOr (fK σ k) x y) : R k (pl x) (pl y) := by
  have e := h.eqv k hk
  have s' := fK_stp s k hk
  obtain ⟨i, rfl⟩ := hxy
  induction i with
  | zero => exact e.rf _ (hp x hx)
  | succ i ih => exact e.tr _ _ _ (hp _ hx) (hp _ (s'.itr hx i)) (hp _ (s'.itr hx (i + 1))) ih (h.step s hp hs hk (s'.itr hx i))
end
end Lw
end

section
namespace Lw
open PySem DL
theorem rl_eq {lo hi x y : Int} : rl lo hi x = rl lo hi y ↔ x = y ∨ ((x = lo ∨ x = hi) ∧ (y = lo ∨ y = hi)) := by
  unfold rl
  by_cases h1 : x = hi <;> by_cases h2 : y = hi
  · simp [h1, h2]
  · rw [if_pos h1, if_neg h2]
    constructor
    · intro h; exact .inr ⟨.inr h1, .inl h.symm⟩
    · rintro (h | ⟨_, h | h⟩)
      · exact absurd (h.symm.trans h1) h2
      · exact h.symm
      · exact absurd h h2
  · rw [if_neg h1, if_pos h2]
    constructor
    · intro h; exact .inr ⟨.inl h, .inr h2⟩
    · rintro (h | ⟨h | h, _⟩)
      · exact absurd (h.trans h2) h1
      · exact h
      · exact absurd h h1
  · rw [if_neg h1, if_neg h2]
    constructor
    · intro h; exact .inl h
    · rintro (h | ⟨h | h, h' | h'⟩)
      · exact h
      · exact h.trans h'.symm
      · exact absurd h' h2
      · exact absurd h h1
      · exact absurd h h1
theorem mkAt_map {g : Int → Int} {l : List Int} {x : Int} (h0 : 0 ≤ x) (h1 : x < l.length) : mkAt (l.map g) x = g (mkAt l x) := by
  unfold mkAt
  rw [List.getD_eq_getElem?_getD, List.getD_eq_getElem?_getD, List.getElem?_map, List.getElem?_eq_getElem (by omega)]
  rfl
/-- one tie more: what hangs together -/
theorem mstep_eq {ms : List Int} {t : Int × Int} {x y : Int} (hx : 0 ≤ x ∧ x < ms.length) (hy : 0 ≤ y ∧ y < ms.length) :
    mkAt (mstep ms t) x = mkAt (mstep ms t) y ↔ mkAt ms x = mkAt ms y ∨ ((mkAt ms x = mkAt ms t.1 ∨ mkAt ms x = mkAt ms t.2) ∧ (mkAt ms y = mkAt ms t.1 ∨ mkAt ms y = mkAt ms t.2)) := by
  unfold mstep
  rw [mkAt_map hx.1 hx.2, mkAt_map hy.1 hy.2, rl_eq]
  generalize mkAt ms t.1 = a
  generalize mkAt ms t.2 = b
  by_cases h : b < a
  · rw [if_pos h, if_neg (by omega)]
    constructor
    · rintro (h | ⟨h1, h2⟩)
      · exact .inl h
      · exact .inr ⟨h1.symm, h2.symm⟩
    · rintro (h | ⟨h1, h2⟩)
      · exact .inl h
      · exact .inr ⟨h1.symm, h2.symm⟩
  · rw [if_neg h]
    by_cases h2 : b > a
    · rw [if_pos h2]
    · rw [if_neg h2]
      have : a = b := by omega
      subst this
      simp
end Lw
end

section
namespace Lw
open PySem DL
section
variable {m1 m2 : Int} {ts1 ts2 : List (Int × Int)} {rows1 rows2 : List (List Int)} {p its : Nat}
theorem plc_bd {m : Int} {ts : List (Int × Int)} (ht : TiesOk m ts) {x : Nat} (hx : x < 2 * ts.length) : 0 ≤ plc ts x ∧ plc ts x < m := by
  obtain ⟨t, h1, _, _, h2⟩ := plc_get hx
  have := ht t h1
  rcases h2 with h2 | h2 <;> omega
end
end Lw
end

section
namespace Lw
open PySem DL
theorem mkAt_mem {ms : List Int} {a : Int} (h0 : 0 ≤ a) (h1 : a < ms.length) : mkAt ms a ∈ ms := List.mem_of_getElem? (mkAt_ok h0 h1).2
end Lw
end

section
namespace Lw
open PySem DL
theorem mkAt_range {m a : Int} (h0 : 0 ≤ a) (h1 : a < m) : mkAt (rangeI m) a = a := by
  unfold mkAt rangeI
  rw [List.getD_eq_getElem?_getD, List.getElem?_map, List.getElem?_range (by omega)]
  show ((a.toNat : Nat) : Int) = a
  omega
end Lw
end

section
namespace Lw
open PySem DL
section
variable {m : Int} {ts : List (Int × Int)} {rows : List (List Int)}
def plN (ts : List (Int × Int)) (x : Nat) : Nat := (plc ts x).toNat
def hangR (m : Int) (ts : List (Int × Int)) (k x y : Nat) : Prop := mkAt (marks m (ts.take k)) (x : Int) = mkAt (marks m (ts.take k)) (y : Int)
theorem plc_tie {k : Nat} {t : Int × Int} (h : ts[k]? = some t) : plc ts (2 * k) = t.1 ∧ plc ts (2 * k + 1) = t.2 := by
  unfold plc
  rw [show 2 * k / 2 = k by omega, show (2 * k + 1) / 2 = k by omega, h]
  exact ⟨if_pos (by omega), if_neg (by omega)⟩
theorem plN_cast (ht : TiesOk m ts) {x : Nat} (hx : x < 2 * ts.length) : ((plN ts x : Nat) : Int) = plc ts x ∧ plN ts x < m.toNat := by
  have := plc_bd ht hx
  unfold plN
  omega
theorem hang (ht : TiesOk m ts) : Hang ts.length m.toNat (plN ts) (hangR m ts) := by
  refine ⟨fun k _ => ⟨fun x _ => rfl, fun x y _ _ h => Eq.symm h, fun x y z _ _ _ h1 h2 => Eq.trans h1 h2⟩, fun x y hx hy => ?_, fun k hk x y hx hy => ?_⟩
  · unfold hangR
    rw [List.take_zero]
    show mkAt (rangeI m) x = mkAt (rangeI m) y ↔ _
    rw [mkAt_range (by omega) (by omega), mkAt_range (by omega) (by omega)]
    omega
  · obtain ⟨t, h⟩ : ∃ t, ts[k]? = some t := ⟨_, List.getElem?_eq_getElem hk⟩
    have hm := marks_len m (ts.take k)
    have c1 := (plN_cast ht (x := 2 * k) (by omega)).1
    have c2 := (plN_cast ht (x := 2 * k + 1) (by omega)).1
    rw [(plc_tie h).1] at c1
    rw [(plc_tie h).2] at c2
    unfold hangR
    rw [marks_take m ts h, mstep_eq (by omega) (by omega), c1, c2]
    generalize mkAt (marks m (ts.take k)) (x : Int) = a
    generalize mkAt (marks m (ts.take k)) (y : Int) = b
    generalize mkAt (marks m (ts.take k)) t.1 = c
    generalize mkAt (marks m (ts.take k)) t.2 = d
    constructor
    · rintro (h | ⟨h1 | h1, h2 | h2⟩)
      · exact .inl h
      · exact .inl (h1.trans h2.symm)
      · exact .inr (.inl ⟨h1, h2.symm⟩)
      · exact .inr (.inr ⟨h1, h2.symm⟩)
      · exact .inl (h1.trans h2.symm)
    · rintro (h | ⟨h1, h2⟩ | ⟨h1, h2⟩)
      · exact .inl h
      · exact .inr ⟨.inl h1, .inr h2.symm⟩
      · exact .inr ⟨.inr h1, .inl h2.symm⟩
def faceP (A : Nat → Bool) : List Nat → Bool
  | [] => false
  | x :: _ => A x
end
end Lw
end

section
namespace Lw
open PySem DL
section
variable {m : Int} {ts : List (Int × Int)} {rows : List (List Int)} {Ls : List (List Nat)}
def tiesIn (m : Int) (ts : List (Int × Int)) (f : Int) : Nat := (ts.filter fun t => mkAt (marks m ts) t.1 == f).length
def loneIn (m : Int) (ts : List (Int × Int)) (rows : List (List Int)) (f : Int) : Nat := ((List.range rows.length).filter fun p : Nat => (rows.getD p []).isEmpty && (mkAt (marks m ts) (p : Int) == f)).length
end
end Lw
end

section
namespace Lw
open PySem DL
section
variable {m : Int} {ts : List (Int × Int)} {rows : List (List Int)} {Ls : List (List Nat)}
/-- the list of numbers of parts -/
structure NumOk (m : Int) (ts : List (Int × Int)) (ns : List Int) : Prop where
  len : ns.length = m.toNat
  num : ∀ (p i : Nat), p < m.toNat → (dsort (marks m ts))[i]? = some (mkAt (marks m ts) (p : Int)) → ns[p]? = some (i : Int)
theorem NumOk.at (h : NumOk m ts ns) {a : Int} (ha : 0 ≤ a ∧ a < m) : ∃ i : Nat, (dsort (marks m ts))[i]? = some (mkAt (marks m ts) a) ∧ i < (dsort (marks m ts)).length ∧ ixP (ns.map .int) a = some (.int (i : Int)) := by
  have hml := marks_len m ts
  have hm : mkAt (marks m ts) a ∈ dsort (marks m ts) := dsort_mem.mpr (mkAt_mem ha.1 (by omega))
  obtain ⟨i, hi⟩ := List.mem_iff_getElem?.mp hm
  refine ⟨i, hi, (List.getElem?_eq_some_iff.mp hi).1, ixP_pos ha.1 ?_⟩
  rw [List.getElem?_map, h.num a.toNat i (by omega) (by rw [Int.toNat_of_nonneg ha.1]; exact hi)]
  rfl
end
end Lw
end

section
namespace Lw
open PySem DL
section
variable {m : Int} {ts : List (Int × Int)} {rows : List (List Int)} {Ls : List (List Nat)}
def g1 (m : Int) (ts : List (Int × Int)) (q : Nat) (f : Int) : Int := 2 - (grp (marks m ts) f).length + (((ts.take q).filter fun t => mkAt (marks m ts) t.1 == f).length : Nat)
def g2 (m : Int) (ts : List (Int × Int)) (rows : List (List Int)) (j : Nat) (f : Int) : Int := 2 - (grp (marks m ts) f).length + tiesIn m ts f - (((List.range j).filter fun p : Nat => (rows.getD p []).isEmpty && (mkAt (marks m ts) (p : Int) == f)).length : Nat)
def g3 (m : Int) (ts : List (Int × Int)) (rows : List (List Int)) (Ls : List (List Nat)) (k : Nat) (f : Int) : Int := 2 - (grp (marks m ts) f).length + tiesIn m ts f - loneIn m ts rows f - (((Ls.take k).filter (faceP fun x => mkAt (marks m ts) (plc ts x) == f)).length : Nat)
end
end Lw
end

section
namespace Lw
open PySem DL
section
variable {m : Int} {ts : List (Int × Int)} {rows : List (List Int)} {Ls Ls' : List (List Nat)}
end
end Lw
end

section
namespace Lw
open PySem DL
section
variable {m : Int} {ts : List (Int × Int)} {rows : List (List Int)} {Ls : List (List Nat)}
end
end Lw
end

section
namespace Lw
open PySem DL
section
variable {m : Int} {ts : List (Int × Int)}
/-- the holes of the order of a number -/
noncomputable def hN (m : Int) (ts : List (Int × Int)) (n : Nat) : Int := twiceN m ts (ordA ts m.toNat n) / 2
end
end Lw
end

section
namespace Lw
open PySem DL
end Lw
end

section
namespace Lw
open PySem DL
theorem fct_add (a : Nat) : ∀ b : Nat, fct a * fct b ≤ fct (a + b)
  | 0 => by simp [fct]
  | b + 1 => by
    have ih := fct_add a b
    show fct a * ((b + 1) * fct b) ≤ (a + b + 1) * fct (a + b)
    calc fct a * ((b + 1) * fct b) = (b + 1) * (fct a * fct b) := by rw [Nat.mul_left_comm]
      _ ≤ (a + b + 1) * (fct a * fct b) := Nat.mul_le_mul_right _ (by omega)
      _ ≤ (a + b + 1) * fct (a + b) := Nat.mul_le_mul_left _ ih
def sumE (ts : List (Int × Int)) : Nat → Nat
  | 0 => 0
  | p + 1 => sumE ts p + (endsI ts p).length
theorem wP_fct {ts : List (Int × Int)} : ∀ p, wP ts p ≤ fct (sumE ts p)
  | 0 => Nat.le_refl _
  | p + 1 => by
    show wP ts p * fct ((endsI ts p).length - 1) ≤ fct (sumE ts p + (endsI ts p).length)
    refine Nat.le_trans (Nat.mul_le_mul (wP_fct p) (fct_mono (Nat.sub_le _ 1))) (fct_add _ _)
theorem split_len (f : Nat → Int) (p : Nat) : ∀ l : List Nat, (l.filter fun e => decide (f e = p)).length + (l.filter fun e => decide ((p : Int) + 1 ≤ f e)).length = (l.filter fun e => decide ((p : Int) ≤ f e)).length
  | [] => rfl
  | e :: l => by
    have ih := split_len f p l
    rw [List.filter_cons, List.filter_cons, List.filter_cons]
    by_cases h : f e = p
    · have h2 : ¬ (p : Int) + 1 ≤ f e := by omega
      have h3 : (p : Int) ≤ f e := by omega
      rw [if_pos (by simpa using h), if_neg (by simpa using h2), if_pos (by simpa using h3), List.length_cons, List.length_cons]
      omega
    · by_cases h2 : (p : Int) + 1 ≤ f e
      · have h3 : (p : Int) ≤ f e := by omega
        rw [if_neg (by simpa using h), if_pos (by simpa using h2), if_pos (by simpa using h3), List.length_cons, List.length_cons]
        omega
      · have h3 : ¬ (p : Int) ≤ f e := by omega
        rw [if_neg (by simpa using h), if_neg (by simpa using h2), if_neg (by simpa using h3)]
        exact ih
theorem sumE_le {ts : List (Int × Int)} : ∀ p, sumE ts p + ((List.range (2 * ts.length)).filter fun e => decide ((p : Int) ≤ plc ts e)).length ≤ 2 * ts.length
  | 0 => by
    have := List.length_filter_le (fun e => decide (((0 : Nat) : Int) ≤ plc ts e)) (List.range (2 * ts.length))
    rw [List.length_range] at this
    show 0 + _ ≤ _
    omega
  | p + 1 => by
    have ih := sumE_le (ts := ts) p
    have h := split_len (plc ts) p (List.range (2 * ts.length))
    have e : (endsI ts p).length = ((List.range (2 * ts.length)).filter fun e => decide (plc ts e = (p : Int))).length := by
      unfold endsI
      rw [List.length_map]
    show sumE ts p + (endsI ts p).length + _ ≤ _
    rw [e]
    push_cast
    omega
theorem wP_big {ts : List (Int × Int)} (hl : ts.length ≤ 25) (p : Nat) : wP ts p ≤ 2 ^ 300 := by
  have h1 := wP_fct (ts := ts) p
  have h2 := sumE_le (ts := ts) p
  have h3 : fct (sumE ts p) ≤ fct 50 := fct_mono (by omega)
  have h4 : fct 50 ≤ 2 ^ 300 := by decide +kernel
  omega
section
variable {m : Int} {ts : List (Int × Int)}
end
end Lw
end

section
namespace Lw
open PySem DL
/-- the number of an order of a list -/
def numP : Nat → List Int → List Int → Nat
  | k + 1, l, x :: xs => (l.findIdx (· == x)) * fct k + numP k (l.eraseIdx (l.findIdx (· == x))) xs
  | _, _, _ => 0
theorem prm_cons {k n : Nat} {l : List Int} {x : Int} (h : l[n / fct k]? = some x) : prm (k + 1) l n = x :: prm k (l.eraseIdx (n / fct k)) (n % fct k) := by
  have e : prm (k + 1) l n = match l[n / fct k]? with
    | some x' => x' :: prm k (l.eraseIdx (n / fct k)) (n % fct k)
    | none => [] := rfl
  rw [e, h]
theorem findIdx_of {l : List Int} (nd : l.Nodup) {i : Nat} {x : Int} (h : l[i]? = some x) : l.findIdx (· == x) = i := by
  obtain ⟨h1, h2⟩ := List.getElem?_eq_some_iff.mp h
  rw [List.findIdx_eq h1]
  refine ⟨by simp [h2], fun j hj => ?_⟩
  have hne : l[j] ≠ x := fun e => (List.pairwise_iff_getElem.mp nd) j i (by omega) h1 hj (e.trans h2.symm)
  simpa using hne
theorem er_nodup {l : List Int} (nd : l.Nodup) (i : Nat) : (l.eraseIdx i).Nodup := nd.sublist (List.eraseIdx_sublist ..)
theorem numP_prm : ∀ (k : Nat) (l : List Int) (n : Nat), l.length = k → l.Nodup → n < fct k → numP k l (prm k l n) = n
  | 0, l, n, h, _, hn => by
    have : n = 0 := by simp [fct] at hn; exact hn
    subst this
    rfl
  | k + 1, l, n, h, nd, hn => by
    have hq : n / fct k < k + 1 := (Nat.div_lt_iff_lt_mul (fct_pos k)).mpr hn
    have hx : l[n / fct k]? = some (l[n / fct k]'(by omega)) := List.getElem?_eq_getElem (by omega)
    rw [prm_cons hx]
    show (l.findIdx (· == _)) * fct k + numP k (l.eraseIdx (l.findIdx (· == _))) _ = n
    rw [findIdx_of nd hx, numP_prm k _ _ (by rw [List.length_eraseIdx, if_pos (by omega)]; omega) (er_nodup nd _) (Nat.mod_lt _ (fct_pos k))]
    rw [Nat.mul_comm]
    exact Nat.div_add_mod n (fct k)
theorem numP_lt : ∀ (k : Nat) (l row : List Int), l.length = k → row.Perm l → numP k l row < fct k
  | 0, l, row, h, _ => by simp [numP, fct]
  | k + 1, l, [], h, hp => by have := hp.length_eq; simp at this; omega
  | k + 1, l, x :: xs, h, hp => by
    have hm : x ∈ l := hp.mem_iff.mp (by simp)
    have hi : l.findIdx (· == x) < l.length := List.findIdx_lt_length_of_exists ⟨x, hm, by simp⟩
    have hg : l[l.findIdx (· == x)] = x := by simpa using List.findIdx_getElem (w := hi)
    have hp2 : xs.Perm (l.eraseIdx (l.findIdx (· == x))) := by
      have h1 := erase_perm hi
      rw [hg] at h1
      exact List.Perm.cons_inv (hp.trans h1.symm)
    have ih := numP_lt k _ xs (by rw [List.length_eraseIdx, if_pos hi]; omega) hp2
    show (l.findIdx (· == x)) * fct k + numP k _ xs < (k + 1) * fct k
    have : (l.findIdx (· == x) + 1) * fct k ≤ (k + 1) * fct k := Nat.mul_le_mul_right _ (by omega)
    rw [Nat.succ_mul] at this
    omega
theorem prm_numP : ∀ (k : Nat) (l row : List Int), l.length = k → row.Perm l → prm k l (numP k l row) = row
  | 0, l, row, h, hp => by
    have : row.length = 0 := by rw [hp.length_eq, h]
    rw [List.eq_nil_of_length_eq_zero this]
    rfl
  | k + 1, l, [], h, hp => by have := hp.length_eq; simp at this; omega
  | k + 1, l, x :: xs, h, hp => by
    have hm : x ∈ l := hp.mem_iff.mp (by simp)
    have hi : l.findIdx (· == x) < l.length := List.findIdx_lt_length_of_exists ⟨x, hm, by simp⟩
    have hg : l[l.findIdx (· == x)] = x := by simpa using List.findIdx_getElem (w := hi)
    have hp2 : xs.Perm (l.eraseIdx (l.findIdx (· == x))) := by
      have h1 := erase_perm hi
      rw [hg] at h1
      exact List.Perm.cons_inv (hp.trans h1.symm)
    have hk : (l.eraseIdx (l.findIdx (· == x))).length = k := by rw [List.length_eraseIdx, if_pos hi]; omega
    have lt := numP_lt k _ xs hk hp2
    have ih := prm_numP k _ xs hk hp2
    have e : numP (k + 1) l (x :: xs) = (l.findIdx (· == x)) * fct k + numP k (l.eraseIdx (l.findIdx (· == x))) xs := rfl
    have d1 : numP (k + 1) l (x :: xs) / fct k = l.findIdx (· == x) := by
      rw [e, Nat.mul_comm, Nat.mul_add_div (fct_pos k), Nat.div_eq_of_lt lt, Nat.add_zero]
    have d2 : numP (k + 1) l (x :: xs) % fct k = numP k (l.eraseIdx (l.findIdx (· == x))) xs := by
      rw [e, Nat.mul_comm, Nat.mul_add_mod, Nat.mod_eq_of_lt lt]
    have hx : l[numP (k + 1) l (x :: xs) / fct k]? = some x := by rw [d1, List.getElem?_eq_getElem hi, hg]
    rw [prm_cons hx, d1, d2, ih]
/-- the number of a row -/
def rowNo (E row : List Int) : Nat := numP (E.length - 1) (E.drop 1) (row.drop 1)
theorem rowNo_at {E : List Int} {n : Nat} (nd : E.Nodup) (hn : n < fct (E.length - 1)) : rowNo E (rowAt E n) = n := by
  unfold rowNo rowAt
  cases E with
  | nil =>
    have : n = 0 := by simp [fct] at hn; exact hn
    subst this
    rfl
  | cons x xs =>
    rw [List.nodup_cons] at nd
    exact numP_prm _ xs n (by simp) nd.2 hn
theorem at_rowNo {E row : List Int} (hp : row.Perm E) (hh : row.take 1 = E.take 1) : rowAt E (rowNo E row) = row ∧ rowNo E row < fct (E.length - 1) := by
  have hd : (row.drop 1).Perm (E.drop 1) := by
    have h1 : (row.take 1 ++ row.drop 1).Perm (E.take 1 ++ E.drop 1) := by rw [List.take_append_drop, List.take_append_drop]; exact hp
    rw [hh] at h1
    exact (List.perm_append_left_iff _).mp h1
  have hl : (E.drop 1).length = E.length - 1 := by rw [List.length_drop]
  refine ⟨?_, numP_lt _ _ _ hl hd⟩
  unfold rowAt rowNo
  rw [prm_numP _ _ _ hl hd, ← hh, List.take_append_drop]
end Lw
end

section
namespace Lw
open PySem DL
def srtI (l : List Int) : List Int := l.mergeSort fun a b => decide (a ≤ b)
theorem srtI_of {l s : List Int} (hp : l.Perm s) (hs : s.Pairwise (· < ·)) : srtI l = s := (srt_uniq hp.symm (hs.imp fun h => by omega)).symm
section
variable {ts : List (Int × Int)}
end
end Lw
end

section
namespace Lw
open PySem DL
section
variable {m : Int} {ts : List (Int × Int)}
end
end Lw
end

section
namespace Lw
open PySem DL
def Ls (x : Sl) (L : List D) : Prop := x = .own false (.lst L) ∨ x = .frz false (.list L)
section
variable {m : Int} {ts : List (Int × Int)}
theorem endsI_nd (p : Int) : (endsI ts p).Nodup := List.nodup_iff_pairwise_ne.mpr ((endsI_pw ts p).imp fun h => by omega)
end
end Lw
end

section
namespace Lw
open PySem DL
section
variable {m : Int} {ts : List (Int × Int)} {rows : List (List Int)}
def RnI (row : List Int) (T : Nat) (j : Nat) (r : Ro) : Prop := ∃ (N : Nat) (l : List Int) (x3 x4 : Sl), r = [.frz false (.tuple (row.map .int)), .frz false (.int N), .own false (.lst (l.map .int)), x3, x4] ∧ Fr x3 ∧ Fr x4 ∧ l.length + j + 1 = row.length ∧ ((row.drop 1).drop j).Perm l ∧ N + numP l.length l ((row.drop 1).drop j) = T
theorem row_number_ok {E row : List Int} (pw : E.Pairwise (· < ·)) (hE : E.length ≤ 48) (hp : row.Perm E) (hh : row.take 1 = E.take 1) : Oks sem_row_number_7a06 [.fz (.tuple (row.map .int))] fun v ys => v = .ok (.val (.int (rowNo E row : Nat))) ∧ ys = [.fz (.tuple (row.map .int))] := by
  have lb : (lineD : Nat) = 16777216 := rfl
  have hso := srtOk_ints row
  have hs : srtD (row.map .int) = E.map .int := by
    rw [srtD_ints]
    congr 1
    exact srtI_of hp pw
  have hlen := hp.length_eq
  have nd : E.Nodup := List.nodup_iff_pairwise_ne.mpr (pw.imp fun h => by omega)
  refine oks_def rfl ?_
  simp [-getElem?_pos, -getElem?_neg, List.getElem?_cons_zero, List.getElem?_cons_succ, b_row_number_7a06, hso, hs]
  cases hrow : row with
  | nil =>
    subst hrow
    have hE0 : E = [] := List.eq_nil_of_length_eq_zero (by rw [← hlen]; rfl)
    subst hE0
    simp [-getElem?_pos, -getElem?_neg, List.getElem?_cons_zero, List.getElem?_cons_succ, forS, rowNo, numP]
  | cons z zs =>
    rw [← hrow]
    have hpos : 0 < row.length := by rw [hrow]; simp
    have hd : (row.drop 1).Perm (E.drop 1) := by
      have h1 : (row.take 1 ++ row.drop 1).Perm (E.take 1 ++ E.drop 1) := by rw [List.take_append_drop, List.take_append_drop]; exact hp
      rw [hh] at h1
      exact (List.perm_append_left_iff _).mp h1
    have hEl : (E.drop 1).length = E.length - 1 := by rw [List.length_drop]
    rw [show (row.map PyData.int).tail = (row.drop 1).map .int by rw [List.map_drop, List.drop_one], show (E.map PyData.int).tail = (E.drop 1).map .int by rw [List.map_drop, List.drop_one]]
    refine forS_inv (RnI row (rowNo E row)) _ 0 _ ?_ (fun j d r hd2 hI => ?_) (fun r hI => ?_)
    · refine ⟨0, E.drop 1, _, _, rfl, .non, .non, by rw [hEl]; omega, by rw [List.drop_zero]; exact hd, ?_⟩
      rw [List.drop_zero, Nat.zero_add, hEl]
      rfl
    · rw [Nat.zero_add] at hI ⊢
      obtain ⟨N, l, x3, x4, rfl, h3, h4, hl, hperm, hN⟩ := hI
      rw [List.getElem?_map] at hd2
      obtain ⟨x, hx, rfl⟩ := Option.map_eq_some_iff.mp hd2
      have hdj : (row.drop 1).drop j = x :: (row.drop 1).drop (j + 1) := by
        obtain ⟨h1, h2⟩ := List.getElem?_eq_some_iff.mp hx
        rw [List.drop_eq_getElem_cons h1, h2]
      rw [hdj] at hperm hN
      have hml : x ∈ l := hperm.mem_iff.mp (by simp)
      have hi : l.findIdx (· == x) < l.length := List.findIdx_lt_length_of_exists ⟨x, hml, by simp⟩
      have hf : l.findIdx? (· == x) = some (l.findIdx (· == x)) := List.findIdx?_eq_some_of_exists ⟨x, hml, by simp⟩
      have hg : l[l.findIdx (· == x)] = x := by simpa using List.findIdx_getElem (w := hi)
      obtain ⟨k, hk⟩ : ∃ k, l.length = k + 1 := ⟨l.length - 1, by omega⟩
      rw [hk] at hN
      have hN : N + ((l.findIdx (· == x)) * fct k + numP k (l.eraseIdx (l.findIdx (· == x))) ((row.drop 1).drop (j + 1))) = rowNo E row := hN
      have hp2 : ((row.drop 1).drop (j + 1)).Perm (l.eraseIdx (l.findIdx (· == x))) := by
        have h1 := erase_perm hi
        rw [hg] at h1
        exact List.Perm.cons_inv (hperm.trans h1.symm)
      generalize l.findIdx (· == x) = q at *
      obtain ⟨_, _, e1, rfl, rfl⟩ := rows_many_ok (n := l.length) (by omega)
      rw [hk, Nat.add_sub_cancel] at e1
      rw [← hk] at e1
      have s1 : SmM (q : Int) ((fct k : Nat) : Int) := ends_mul_lo (Nat.le_trans (show q ≤ 48 by omega) (by decide +kernel)) (fct_small (by omega))
      have ix : ixD l.length (q : Int) = some q := ixD_nat (by omega)
      have hq2 : (l.map PyData.int)[q]? = some (.int x) := by rw [List.getElem?_map, List.getElem?_eq_getElem hi, hg]; rfl
      have hq3 : l[q]? = some x := by rw [List.getElem?_eq_getElem hi, hg]
      have o3 : -9223372036854775808 ≤ (q : Int) := by omega
      have o4 : (q : Int) < 9223372036854775808 := by omega
      have eN : (N : Int) + (q : Int) * ((fct k : Nat) : Int) = ((N + q * fct k : Nat) : Int) := by push_cast; rfl
      obtain ⟨M, hM⟩ : ∃ M, M = N + q * fct k := ⟨_, rfl⟩
      rw [← hM] at eN
      simp [-getElem?_pos, -getElem?_neg, List.getElem?_cons_zero, List.getElem?_cons_succ, h3.pin, h3.al, h4.pin, h4.al, hf, idxP_i, e1, s1, ix, hq2, hq3, o3, o4, eN]
      rw [← er_map]
      exact ⟨M, l.eraseIdx q, _, _, rfl, .frz, .frz, by rw [List.length_eraseIdx, if_pos hi]; omega, hp2, by rw [List.length_eraseIdx, if_pos hi, hk, Nat.add_sub_cancel, ← hN]; omega⟩
    · obtain ⟨N, l, x3, x4, rfl, h3, h4, hl, hperm, hN⟩ := hI
      rw [Nat.zero_add, List.length_map, List.drop_length] at hperm hN
      have : l = [] := List.eq_nil_of_length_eq_zero (by rw [← hperm.length_eq]; rfl)
      subst this
      have hN : N + 0 = rowNo E row := hN
      rw [Nat.add_zero] at hN
      subst hN
      simp [-getElem?_pos, -getElem?_neg, List.getElem?_cons_zero, List.getElem?_cons_succ]
/-- the number of an order -/
def numO (ts : List (Int × Int)) (rows : List (List Int)) : Nat → Nat
  | 0 => 0
  | p + 1 => numO ts rows p * wR ts p + rowNo (endsI ts p) (rows.getD p [])
theorem row_perm {q : Nat} {row : List Int} (h : RowN ts (2 * ts.length) q row) : row.Perm (endsI ts q) := by
  rw [List.perm_ext_iff_of_nodup h.nd (endsI_nd _)]
  intro a
  rw [h.mem, endsI_mem]
  constructor <;> (rintro ⟨a, b, c⟩; exact ⟨a, by omega, c⟩)
theorem ordA_num (ho : OrdN m ts (2 * ts.length) rows) : ∀ p, p ≤ m.toNat → numO ts rows p < wP ts p ∧ ordA ts p (numO ts rows p) = rows.take p
  | 0, _ => ⟨Nat.one_pos, by simp [ordA]⟩
  | p + 1, hp => by
    obtain ⟨h1, h2⟩ := ordA_num ho p (by omega)
    have hr : rows[p]? = some (rows.getD p []) := by
      rw [List.getD_eq_getElem?_getD, List.getElem?_eq_getElem (by rw [ho.len]; omega)]
      rfl
    have R := ho.row p _ hr
    obtain ⟨a1, a2⟩ := at_rowNo (row_perm R) (row_head R)
    have a2 : rowNo (endsI ts p) (rows.getD p []) < wR ts p := a2
    have w0 := wR_pos (ts := ts) p
    have eN : numO ts rows (p + 1) = numO ts rows p * wR ts p + rowNo (endsI ts p) (rows.getD p []) := rfl
    refine ⟨?_, ?_⟩
    · show _ < wP ts p * wR ts p
      have : (numO ts rows p + 1) * wR ts p ≤ wP ts p * wR ts p := Nat.mul_le_mul_right _ (by omega)
      rw [Nat.succ_mul] at this
      omega
    · have d1 : numO ts rows (p + 1) / wR ts p = numO ts rows p := by
        rw [eN, Nat.mul_comm, Nat.mul_add_div w0, Nat.div_eq_of_lt a2, Nat.add_zero]
      have d2 : numO ts rows (p + 1) % wR ts p = rowNo (endsI ts p) (rows.getD p []) := by
        rw [eN, Nat.mul_comm, Nat.mul_add_mod, Nat.mod_eq_of_lt a2]
      show ordA ts p (numO ts rows (p + 1) / wR ts p) ++ [rowAt (endsI ts p) (numO ts rows (p + 1) % wR ts p)] = _
      rw [d1, d2, h2, a1, List.take_add_one, hr]
      rfl
theorem num_ordA : ∀ (p n : Nat) (T : List (List Int)), n < wP ts p → numO ts (ordA ts p n ++ T) p = n
  | 0, n, T, hn => by
    have : n < 1 := hn
    show 0 = n
    omega
  | p + 1, n, T, hn => by
    have hn : n < wP ts p * wR ts p := hn
    have w0 := wR_pos (ts := ts) p
    have hq : n / wR ts p < wP ts p := (Nat.div_lt_iff_lt_mul w0).mpr hn
    have hr : n % wR ts p < wR ts p := Nat.mod_lt _ w0
    have eO : ordA ts (p + 1) n = ordA ts p (n / wR ts p) ++ [rowAt (endsI ts p) (n % wR ts p)] := rfl
    rw [eO, List.append_assoc]
    have ih := num_ordA p (n / wR ts p) ([rowAt (endsI ts p) (n % wR ts p)] ++ T) hq
    have hg : (ordA ts p (n / wR ts p) ++ ([rowAt (endsI ts p) (n % wR ts p)] ++ T)).getD p [] = rowAt (endsI ts p) (n % wR ts p) := by
      rw [List.getD_eq_getElem?_getD, List.getElem?_append_right (by rw [ordA_len]; exact Nat.le_refl _), ordA_len, Nat.sub_self]
      rfl
    show numO ts _ p * wR ts p + rowNo (endsI ts p) ((ordA ts p (n / wR ts p) ++ ([rowAt (endsI ts p) (n % wR ts p)] ++ T)).getD p []) = n
    rw [ih, hg, rowNo_at (endsI_nd _) hr, Nat.mul_comm]
    exact Nat.div_add_mod n _
def NoI (m : Int) (ts : List (Int × Int)) (rows : List (List Int)) (k : Nat) (r : Ro) : Prop := ∃ x3, r = [.frz false (webD m ts), .frz false (orderD rows), .frz false (.int (numO ts rows k : Nat)), x3] ∧ Fr x3
theorem number_of_ok (hm : 0 ≤ m ∧ m ≤ 1000) (hl : ts.length ≤ 24) (ho : OrdN m ts (2 * ts.length) rows) : Oks sem_number_of_1429 [.fz (webD m ts), .fz (orderD rows)] fun v ys => v = .ok (.val (.int (numO ts rows m.toNat : Nat))) ∧ ys = [.fz (webD m ts), .fz (orderD rows)] := by
  have lb : (lineD : Nat) = 16777216 := rfl
  have ro : rowOf (orderD rows) = some (rows.map fun row => PyData.tuple (row.map .int)) := rfl
  refine oks_def rfl ?_
  simp [-getElem?_pos, -getElem?_neg, List.getElem?_cons_zero, List.getElem?_cons_succ, b_number_of_1429, ro]
  refine forS_inv (NoI m ts rows) _ 0 _ ?_ (fun k d r hd hI => ?_) (fun r hI => ?_)
  · exact ⟨_, rfl, .non⟩
  · rw [Nat.zero_add] at hI ⊢
    obtain ⟨x3, rfl, h3⟩ := hI
    rw [List.getElem?_map] at hd
    obtain ⟨row, hrow, rfl⟩ := Option.map_eq_some_iff.mp hd
    have hk := (List.getElem?_eq_some_iff.mp hrow).1
    have R := ho.row k row hrow
    have hel := endsI_len ts (k : Int)
    have hrl := (row_perm R).length_eq
    obtain ⟨_, _, e1, rfl, rfl⟩ := rows_many_ok (n := row.length) (by omega)
    rw [hrl] at e1
    have e1 : sem_rows_many_c3e5 [.fz (.int ((endsI ts (k : Int)).length : Int))] = some (.ok (.val (.int ((wR ts k : Nat) : Int))), [.fz (.int ((endsI ts (k : Int)).length : Int))]) := e1
    rw [← hrl] at e1
    obtain ⟨_, _, e2, rfl, rfl⟩ := row_number_ok (E := endsI ts (k : Int)) (row := row) (endsI_pw _ _) (by omega) (row_perm R) (row_head R)
    have hb : numO ts rows k ≤ 2 ^ 300 := by
      have h1 := (ordA_num ho k (by rw [← ho.len]; omega)).1
      have h2 := wP_big (ts := ts) (by omega) k
      omega
    have hw2 : wR ts k ≤ 2 ^ 200 := fct_small (by omega)
    have s1 : SmM ((numO ts rows k : Nat) : Int) ((wR ts k : Nat) : Int) := ends_mul_lo hb hw2
    have hg : rows.getD k [] = row := by rw [List.getD_eq_getElem?_getD, hrow]; rfl
    have e3 : ((numO ts rows k : Nat) : Int) * ((wR ts k : Nat) : Int) + ((rowNo (endsI ts (k : Int)) row : Nat) : Int) = ((numO ts rows (k + 1) : Nat) : Int) := by
      show _ = ((numO ts rows k * wR ts k + rowNo (endsI ts k) (rows.getD k []) : Nat) : Int)
      rw [hg]
      push_cast
      rfl
    simp [-getElem?_pos, -getElem?_neg, List.getElem?_cons_zero, List.getElem?_cons_succ, h3.pin, h3.al, e1, e2, s1, e3]
    exact ⟨_, rfl, .frz⟩
  · obtain ⟨x3, rfl, h3⟩ := hI
    rw [List.length_map, Nat.zero_add, ho.len]
    simp [-getElem?_pos, -getElem?_neg, List.getElem?_cons_zero, List.getElem?_cons_succ]
end
end Lw
end

section
namespace Lw
open PySem DL
end Lw
end

section
namespace Lw
open PySem DL
theorem TpD.up : ∀ {k : Nat} {d : D}, TpD k d → TpD (k + 1) d
  | _, .int _, _ => trivial
  | k + 1, .tuple ds, h => ⟨h.1, fun d hd => TpD.up (h.2 d hd)⟩
  | 0, .tuple _, h => h.elim
  | 0, .list _, h => h.elim
  | 0, .none, h => h.elim
  | 0, .bool _, h => h.elim
  | 0, .str _, h => h.elim
  | 0, .dict _, h => h.elim
  | _ + 1, .list _, h => h.elim
  | _ + 1, .none, h => h.elim
  | _ + 1, .bool _, h => h.elim
  | _ + 1, .str _, h => h.elim
  | _ + 1, .dict _, h => h.elim
end Lw
end

section
namespace Lw
open PySem DL
section
variable {m : Int} {ts : List (Int × Int)} {rows : List (List Int)}
end
end Lw
end

section
namespace Lw
open PySem DL
end Lw
end

section
namespace Lw
open PySem DL
set_option maxHeartbeats 1000000 in
theorem drawB_ok {n : Nat} {p : List D} {m : Int} (hp : Pen n p) (hn : n ≤ 1000000) (hm : 1 ≤ m) (mm : DL.SmD m) :
    Oks sem_Ldraw_de5b [.ow (.lst p), .fz (.int m)] fun v ys => ∃ r p', v = .ok (.val (.int r)) ∧ ys = [.ow (.lst p'), .fz (.int m)] ∧ 0 ≤ r ∧ r < m ∧ Pen (n + 1) p' := by
  obtain ⟨cs, a, g, rfl, ha, hn2, hg, hcs⟩ := hp.ex
  refine oks_def rfl ?_
  have m0 : 0 < m := by omega
  have pow : (10 : Int) ^ 18 = 1000000000000000000 := by decide
  have r0 : ∀ x : Int, 0 ≤ x % m := fun x => Int.emod_nonneg _ (by omega)
  have r1 : ∀ x : Int, x % m < m := fun x => Int.emod_lt_of_pos _ m0
  by_cases hg0 : 0 < g
  · simp [b_Ldraw_de5b, hg0, -getElem?_pos, -getElem?_neg, List.getElem?_cons_zero, List.getElem?_cons_succ, m0, mm, r0, r1]
    exact ⟨cs, a, g / m, rfl, ha, by omega, Int.ediv_nonneg hg (by omega), hcs⟩
  · have s1 : SmM 69621 a := smM_of (by omega) (by omega)
    have s2 : ∀ c : Int, SmM (c % 2147483647 + 69621 * a + 13) 48271 := fun c => smM_of (by omega) (by omega)
    have key : ∀ x : Int, 0 ≤ x % 2147483629 ∧ x % 2147483629 < 2147483629 := fun x => by omega
    have s3 : ∀ x : Int, SmM (x % 2147483629) (x % 2147483629) := fun c => smM_of (by omega) (by omega)
    have s4 : ∀ x : Int, SmM 40692 (x % 2147483629) := fun c => smM_of (by omega) (by omega)
    have s5 : ∀ x : Int, SmM (x % 2147483587) 16807 := fun c => smM_of (by omega) (by omega)
    have s6 : DL.SmD 32 := smD_of (by omega)
    have pen1 : ∀ g', 0 ≤ g' → Pen (n + 1) [.list (cs.map .int), .int (a + 1), .int g'] := fun g' h => ⟨cs, a + 1, g', rfl, by omega, by omega, h, hcs⟩
    by_cases hl : 0 < cs.length
    · obtain ⟨c, hc⟩ := ixP_map (cs := cs) (i := a % cs.length) (Int.emod_nonneg _ (by omega)) (Int.emod_lt_of_pos _ (by omega))
      by_cases h2 : a < cs.length ∧ 10 ^ 18 ≤ (if c < 0 then -c else c)
      · have h2' := h2.2
        rw [pow] at h2'
        simp [b_Ldraw_de5b, hg0, -getElem?_pos, -getElem?_neg, List.getElem?_cons_zero, List.getElem?_cons_succ, m0, mm, r0, r1, s1, s2, s3, s4, s5, s6, hl, hc, h2.1, h2', pow]
        exact pen1 _ (Int.ediv_nonneg (by omega) (by omega))
      · by_cases h3 : a < cs.length
        · have h2' : ¬ 1000000000000000000 ≤ (if c < 0 then -c else c) := fun h => h2 ⟨h3, by rw [pow]; exact h⟩
          simp [b_Ldraw_de5b, hg0, -getElem?_pos, -getElem?_neg, List.getElem?_cons_zero, List.getElem?_cons_succ, m0, mm, r0, r1, s1, s2, s3, s4, s5, s6, hl, hc, h3, h2', pow]
          exact pen1 _ hg
        · simp [b_Ldraw_de5b, hg0, -getElem?_pos, -getElem?_neg, List.getElem?_cons_zero, List.getElem?_cons_succ, m0, mm, r0, r1, s1, s2, s3, s4, s5, s6, hl, hc, h3]
          exact pen1 _ hg
    · have hl2 : cs.length = 0 := by omega
      have h3 : ¬ a < 0 := by omega
      have s2' : SmM (11 + 69621 * a + 13) 48271 := smM_of (by omega) (by omega)
      simp [b_Ldraw_de5b, hg0, -getElem?_pos, -getElem?_neg, List.getElem?_cons_zero, List.getElem?_cons_succ, m0, mm, r0, r1, s1, s2, s2', s3, s4, s5, s6, hl, hl2, h3]
      exact pen1 _ hg
end Lw
end

section
namespace Lw
open PySem DL
section
variable {m : Int} {ts : List (Int × Int)}
end
end Lw
end

section
namespace Lw
open PySem DL
section
variable {m : Int} {ts : List (Int × Int)}
end
end Lw
end

section
namespace Lw
open PySem DL
section
variable {m : Int} {ts : List (Int × Int)}
end
end Lw
end

section
namespace Lw
open PySem DL
theorem bigD {n : Nat} (h0 : 0 < n) (h : n ≤ 2 ^ 300) : DL.SmD (n : Int) := by
  have := log2_le (a := (n : Int)) (n := 301) (by omega) (by
    have : ((n : Nat) : Int) < ((2 ^ 301 : Nat) : Int) := Int.ofNat_lt.mpr (Nat.lt_of_le_of_lt h (by decide +kernel))
    simpa using this) (by omega)
  unfold DL.SmD
  omega
end Lw
end

section
namespace DL
open PySem
section
variable {X : Exn → Ro → Prop} {r : Ro}
@[simp, simp ↓] theorem E_mRowL {m : M RV} {Q : List D → Ro → Prop} : E X (mRowL m) r Q ↔ E X m r fun v r' => optP v.data fun d => optP (rowL d) fun xs => Q xs r' := by
  unfold mRowL
  simp only [E_bind, E_of, E_mFz]
@[simp] theorem rowL_l {xs : List D} : rowL (.list xs) = some xs := rfl
end
end DL
end

section
namespace DL
open PySem
def tabP (P : Nat) (q : Str) : Option Sl → Prop
  | some (.own _ (.tab P' q')) => P' = P ∧ q' = q
  | _ => False
@[simp, simp ↓] theorem tabP_own {P P' : Nat} {q q' : Str} {b : Bool} : tabP P q (some (.own b (.tab P' q'))) = (P' = P ∧ q' = q) := rfl
/-- the refusal of a told thing -/
def tellX (L : List String) (word : String → Str) (Q : RV → Ro → Prop) (t : Tok Q := .tok) : Exn → Ro → Prop := fun x r => x.row = none ∧ L.contains x.cls = true ∧ Q (.val (.tuple [.str (Str.ofString "refused"), .str (word x.cls)])) r
@[simp, simp ↓] theorem tellX_mk {L : List String} {word : String → Str} {Q : RV → Ro → Prop} {c : String} {r : Ro} : tellX L word Q .tok ⟨c, none⟩ r ↔ L.contains c = true ∧ Q (.val (.tuple [.str (Str.ofString "refused"), .str (word c)])) r := by simp [tellX]
section
variable {X : Exn → Ro → Prop} {r : Ro}
@[simp, simp ↓] theorem E_mTold {i P : Nat} {q : Str} {me : M RV} {L : List String} {word : String → Str} {Q : RV → Ro → Prop} :
    E X (mTold i P q me L word) r Q ↔ tabP P q r[i]? ∧ E (tellX L word Q) me r fun v r1 => optP v.data fun d => Q (.val (.tuple [.str (Str.ofString "told"), d])) r1 := by
  have fz : E (tellX L word Q) (mFz me) r (fun d r1 => Q (.val (.tuple [.str (Str.ofString "told"), d])) r1) ↔ E (tellX L word Q) me r fun v r1 => optP v.data fun d => Q (.val (.tuple [.str (Str.ofString "told"), d])) r1 := E_mFz
  rw [← fz]
  unfold mTold
  constructor
  · rintro ⟨o, r', e, h⟩
    simp only at e
    split at e
    · rename_i b P' q' hsl
      split at e
      · rename_i hq
        rw [hsl]
        refine ⟨hq, ?_⟩
        cases hm : mFz me r with
        | none => rw [hm] at e; cases e
        | some z =>
          obtain ⟨o1, r1⟩ := z
          rw [hm] at e
          refine ⟨o1, r1, hm, ?_⟩
          cases o1 with
          | ok d => cases e; exact h
          | exc x =>
            simp only at e
            split at e
            · rename_i hr
              split at e
              · rename_i hL
                cases e
                exact ⟨hr, hL, h⟩
              · cases e
            · cases e
      · cases e
    · cases e
  · rintro ⟨ht, o1, r1, hm, h⟩
    cases hs : r[i]? with
    | none => rw [hs] at ht; exact ht.elim
    | some x =>
      cases x with
      | own b c =>
        cases c with
        | tab P' q' =>
          rw [hs] at ht
          unfold E
          simp only [hs, if_pos (show P' = P ∧ q' = q from ht), hm]
          cases o1 with
          | ok d => exact ⟨_, _, rfl, h⟩
          | exc x =>
            obtain ⟨h1, h2, h3⟩ := h
            simp only [h1, h2, if_true]
            exact ⟨_, _, rfl, h3⟩
        | _ => rw [hs] at ht; exact ht.elim
      | _ => rw [hs] at ht; exact ht.elim
@[simp, simp ↓] theorem W_sTab {i P : Nat} {q : Str} {Q : SO → Ro → Prop} : W (sTab i P q) r Q ↔ i < r.length ∧ setP r i (.own false (.tab P q)) (Q .nx) := by
  unfold W sTab setP
  by_cases h : i < r.length
  · rw [if_pos h]
    constructor
    · rintro ⟨o, r', e, q⟩
      cases e
      exact ⟨h, q⟩
    · exact fun q => ⟨_, _, rfl, q.2⟩
  · rw [if_neg h]
    constructor
    · rintro ⟨o, r', e, q⟩
      cases e
    · exact fun q => absurd q.1 h
end
end DL
end

section
namespace Lw
open PySem DL
variable {m : Int} {ts : List (Int × Int)}
theorem order_atR_ok {N : Nat} (hm : 0 ≤ m ∧ m ≤ 1000) (hl : ts.length ≤ 24) (hB : wP ts m.toNat ≤ 2 ^ 300) (hN : N < wP ts m.toNat) : Oks sem_order_at_e71fR [.fz (webD m ts), .fz (.int N)] fun v ys => v = .ok (.val (orderD (ordA ts m.toNat N))) ∧ ys = [.fz (webD m ts), .fz (.int N)] := by
  have lb : (lineD : Nat) = 16777216 := rfl
  have o1 : -4611686018427387904 ≤ m := by omega
  have o2 : m < 4611686018427387904 := by omega
  obtain ⟨_, _, e1, rfl, rfl⟩ := is_whole_ok (n := (N : Int))
  obtain ⟨_, _, e2, rfl, rfl⟩ := orders_many_ok (m := m) (ts := ts) hm hl hB
  have z0 : ¬ (N : Int) < 0 := by omega
  have z1 : ¬ ((wP ts m.toNat : Nat) : Int) ≤ (N : Int) := by omega
  have z2 : N < wP ts m.toNat := hN
  have gl : gLst [] = some (.new (.lst [])) := rfl
  refine oks_def rfl ?_
  simp [-getElem?_pos, -getElem?_neg, List.getElem?_cons_zero, List.getElem?_cons_succ, b_order_at_e71fR, e1, e2, z0, z1, z2, web_0, o1, o2, gl]
  refine forS_inv (OaI m ts N) _ 0 _ ?_ (fun k d r hd hI => ?_) (fun r hI => ?_)
  · exact ⟨N, [], _, _, _, rfl, .non, .non, .non, Nat.zero_le _, rfl, hN, by simp⟩
  · obtain ⟨rfl, hk⟩ := rngD_get hd
    rw [Nat.zero_add] at hI ⊢
    obtain ⟨n, R, x3, x4, x5, rfl, h3, h4, h5, hk2, hR, hn, he⟩ := hI
    obtain ⟨p, hp⟩ : ∃ p, m.toNat - k = p + 1 := ⟨m.toNat - k - 1, by omega⟩
    have hpk : max m 0 - 1 - (k : Int) = (p : Int) := by omega
    rw [hp] at hn he
    obtain ⟨_, _, f1, rfl, rfl⟩ := ends_at_ok (m := m) (p := (p : Int)) (ts := ts) (by omega)
    rw [endsD_I] at f1
    have hel := endsI_len ts (p : Int)
    obtain ⟨_, _, f2, rfl, rfl⟩ := rows_many_ok (n := (endsI ts (p : Int)).length) (by omega)
    have f2 : sem_rows_many_c3e5 [.fz (.int ((endsI ts (p : Int)).length : Int))] = some (.ok (.val (.int ((wR ts p : Nat) : Int))), [.fz (.int ((endsI ts (p : Int)).length : Int))]) := f2
    have w0 := wR_pos (ts := ts) p
    have hq : n / wR ts p < wP ts p := (Nat.div_lt_iff_lt_mul w0).mpr hn
    have hr : n % wR ts p < wR ts p := Nat.mod_lt _ w0
    obtain ⟨_, _, f3, rfl, rfl⟩ := row_at_ok (E := endsI ts (p : Int)) (N := n % wR ts p) (by omega) hr
    have d1 : (n : Int) / ((wR ts p : Nat) : Int) = ((n / wR ts p : Nat) : Int) := by rw [Int.natCast_ediv]
    have d2 : (n : Int) % ((wR ts p : Nat) : Int) = ((n % wR ts p : Nat) : Int) := by rw [Int.natCast_emod]
    have hnb : n < 2 ^ 300 := Nat.lt_of_lt_of_le hn (Nat.le_trans (wP_mono (a := p + 1) (b := m.toNat) (by omega)) hB)
    have lg : (n : Int).natAbs.log2 < 3999 := by
      have := log2_le (a := (n : Int)) (n := 300) (by omega) (by
        have : ((n : Nat) : Int) < ((2 ^ 300 : Nat) : Int) := Int.ofNat_lt.mpr hnb
        simpa using this) (by omega)
      omega
    have lg2 : n.log2 < 3999 := by simpa using lg
    have hRl : R.length < lineD := by omega
    have he2 : ordA ts (p + 1) n = ordA ts p (n / wR ts p) ++ [rowAt (endsI ts p) (n % wR ts p)] := rfl
    rw [he2] at he
    generalize n / wR ts p = q at *
    generalize n % wR ts p = n2 at *
    have hpk2 : m.toNat - (k + 1) = p := by omega
    simp [-getElem?_pos, -getElem?_neg, List.getElem?_cons_zero, List.getElem?_cons_succ, h3.pin, h4.pin, h5.pin, h3.al, h4.al, h5.al, hpk, f1, f2, f3, d1, d2, lg, lg2, w0, hRl]
    exact ⟨q, R ++ [rowAt (endsI ts p) n2], _, _, _, by rw [List.map_append]; rfl, .frz, .lst, .frz, by omega, by rw [List.length_append, hR]; rfl, by rw [hpk2]; exact hq, by rw [hpk2, ← he]; simp⟩
  · obtain ⟨n, R, x3, x4, x5, rfl, h3, h4, h5, hk2, hR, hn, he⟩ := hI
    rw [rngD_len, Nat.zero_add] at hR hn he
    rw [Nat.sub_self] at he
    have he : [] ++ R.reverse = ordA ts m.toNat N := he
    have hRl : R.length ≤ lineD := by omega
    simp [-getElem?_pos, -getElem?_neg, List.getElem?_cons_zero, List.getElem?_cons_succ, hRl]
    unfold orderD
    rw [← he, List.nil_append, List.map_reverse]
/-- what is no number of an order -/
def Bd8 (N : Int) (d : D) : Prop := (∃ n : Int, d = .int n ∧ (n < 0 ∨ N ≤ n)) ∨ sem_is_whole_637d [.fz d] = some (.ok (.val (.bool false)), [.fz d])
theorem order_atR_no {d : D} (hm : 0 ≤ m ∧ m ≤ 1000) (hl : ts.length ≤ 24) (hB : wP ts m.toNat ≤ 2 ^ 300) (h : Bd8 ((wP ts m.toNat : Nat) : Int) d) :
    sem_order_at_e71fR [.fz (webD m ts), .fz d] = some (.exc ⟨"NoNumber", none⟩, [.fz (webD m ts), .fz d]) := by
  obtain ⟨_, _, e2, rfl, rfl⟩ := orders_many_ok (m := m) (ts := ts) hm hl hB
  have : Oks sem_order_at_e71fR [.fz (webD m ts), .fz d] fun v ys => v = .exc ⟨"NoNumber", none⟩ ∧ ys = [.fz (webD m ts), .fz d] := by
    refine oks_def rfl ?_
    rcases h with ⟨n, rfl, h⟩ | h
    · obtain ⟨_, _, e1, rfl, rfl⟩ := is_whole_ok (n := n)
      by_cases hn : n < 0
      · simp [-getElem?_pos, -List.getD_eq_getElem?_getD, -getElem?_neg, List.getElem?_cons_zero, List.getElem?_cons_succ, b_order_at_e71fR, e1, e2, hn]
      · have hN : ((wP ts m.toNat : Nat) : Int) ≤ n := by omega
        simp [-getElem?_pos, -List.getD_eq_getElem?_getD, -getElem?_neg, List.getElem?_cons_zero, List.getElem?_cons_succ, b_order_at_e71fR, e1, e2, hn, hN]
    · simp [-getElem?_pos, -List.getD_eq_getElem?_getD, -getElem?_neg, List.getElem?_cons_zero, List.getElem?_cons_succ, b_order_at_e71fR, h]
  obtain ⟨_, _, e, rfl, rfl⟩ := this
  exact e
def th8a (W far : Int) : List D := [.int W, .int (W + 1), .int (W + far), .int (-1), .int (-1 - far), .int (-W), .bool true, .bool false, .none, .str (Str.ofString "0"), .str (Str.ofString ""), .list [.int 0], .tuple [.int 0], .dict [], .list [], .tuple []]
def th8 (W far : Int) (x : Str) : List D := [.int W, .int (W + 1), .int (W + far), .int (-1), .int (-1 - far), .int (-W), .bool true, .bool false, .none, .str (Str.ofString "0"), .str (Str.ofString ""), .list [.int 0], .tuple [.int 0], .dict [], .list [], .tuple [],
  .str x, .list [.int (W - 1)], .dict [(.int 0, .int 0)]]
theorem th8_bad {W far : Int} {x : Str} (hW : 0 < W) (hf : 0 ≤ far) : ∀ d ∈ th8 W far x, Bd8 W d := by
  intro d hd
  simp only [th8, List.mem_cons, List.not_mem_nil, or_false] at hd
  have no : ∀ e : D, sem_is_whole_637d [.fz e] = some (.ok (.val (.bool false)), [.fz e]) → Bd8 W e := fun e h => .inr h
  rcases hd with rfl | rfl | rfl | rfl | rfl | rfl | rfl | rfl | rfl | rfl | rfl | rfl | rfl | rfl | rfl | rfl | rfl | rfl | rfl
  · exact .inl ⟨_, rfl, by omega⟩
  · exact .inl ⟨_, rfl, by omega⟩
  · exact .inl ⟨_, rfl, by omega⟩
  · exact .inl ⟨_, rfl, by omega⟩
  · exact .inl ⟨_, rfl, by omega⟩
  · exact .inl ⟨_, rfl, by omega⟩
  all_goals exact no _ rfl
set_option maxHeartbeats 4000000 in
theorem law08_ok (P : Nat) (ns : List Int) (h : ns.length ≤ 63) : Oks (sem_law_1a4dR P) [.fz (.dict ((.none, .none) :: ns.map fun n => (.int n, .none)))] fun v ys => v = .ok (.val (.bool true)) ∧ ys.length = 1 := by
  have lb : (lineD : Nat) = 16777216 := rfl
  obtain ⟨_, _, e1, p, rfl, rfl, hp⟩ := pen_ok h
  obtain ⟨_, _, e2, m, ts, p2, rfl, rfl, hw, hp2⟩ := web_ok hp (by omega) (pl := 25) (ti := 24) (by omega) (by omega)
  have hm : m ≤ 25 := hw.mN
  have hm1 : 1 ≤ m := hw.m1
  have hT : ts.length ≤ 24 := hw.len
  have hB := wP_big (ts := ts) (by omega) m.toNat
  have hW0 := wP_pos (ts := ts) m.toNat
  have hWD := bigD hW0 hB
  obtain ⟨_, _, e3, rfl, rfl⟩ := orders_many_ok (m := m) (ts := ts) (by omega) hT hB
  obtain ⟨_, _, d1, a, p4, rfl, rfl, a0, a1, hp4⟩ := drawB_ok hp2 (by omega) (m := 100000000000000000000000000000000000000000000000000000000000) (by decide) (by
    have := bigD (n := 10 ^ 59) (by decide +kernel) (by decide +kernel)
    simpa using this)
  have no := fun d hd => order_atR_no (m := m) (ts := ts) (d := d) (by omega) hT hB hd
  obtain ⟨_, _, e4, rfl, rfl⟩ := order_atR_ok (m := m) (ts := ts) (N := wP ts m.toNat - 1) (by omega) hT hB (by omega)
  obtain ⟨_, _, e5, rfl, rfl⟩ := number_of_ok (m := m) (ts := ts) (by omega) hT (ordA_ord (ts := ts) (m := m) (by omega) (wP ts m.toNat - 1))
  have hnn := num_ordA (ts := ts) m.toNat (wP ts m.toNat - 1) [] (by omega)
  rw [List.append_nil] at hnn
  rw [hnn] at e5
  rw [show ((wP ts m.toNat - 1 : Nat) : Int) = ((wP ts m.toNat : Nat) : Int) - 1 by omega] at e4 e5
  have gs : gStrI [.fz (.int (((wP ts m.toNat : Nat) : Int) - 1))] = some (.val (.str (Str.ofString (toString (((wP ts m.toNat : Nat) : Int) - 1))))) := by
    have := bigD (n := wP ts m.toNat) hW0 hB
    refine gStrI_i ?_
    have h2 : (((wP ts m.toNat : Nat) : Int) - 1).natAbs < 2 ^ 301 := by
      have h3 : (2 : Nat) ^ 300 < 2 ^ 301 := by decide +kernel
      generalize (2 : Nat) ^ 300 = u at *
      generalize (2 : Nat) ^ 301 = v at *
      omega
    by_cases hz : (((wP ts m.toNat : Nat) : Int) - 1).natAbs = 0
    · rw [hz]; decide
    · have := (Nat.log2_lt hz).mpr h2
      omega
  generalize hWW : wP ts m.toNat = Wn at *
  have gl16 : ∀ a1 a2 a3 a4 a5 a6 a7 a8 a9 b1 b2 b3 b4 b5 b6 b7 : D, gLst [.fz a1, .fz a2, .fz a3, .fz a4, .fz a5, .fz a6, .fz a7, .fz a8, .fz a9, .fz b1, .fz b2, .fz b3, .fz b4, .fz b5, .fz b6, .fz b7] = some (.new (.lst [a1, a2, a3, a4, a5, a6, a7, a8, a9, b1, b2, b3, b4, b5, b6, b7])) := fun _ _ _ _ _ _ _ _ _ _ _ _ _ _ _ _ => rfl
  have gl3 : ∀ x y z : D, gLst [.fz x, .fz y, .fz z] = some (.new (.lst [x, y, z])) := fun _ _ _ => rfl
  have gl1 : ∀ x : D, gLst [.fz x] = some (.new (.lst [x])) := fun _ => rfl
  have gl0 : gLst [] = some (.new (.lst [])) := rfl
  refine oks_def rfl ?_
  simp [-getElem?_pos, -List.getD_eq_getElem?_getD, -getElem?_neg, List.getElem?_cons_zero, List.getElem?_cons_succ, b_law_1a4dR, e1, e2, e3, d1, gs, gl16, gl3, gl1, gl0]
  have bad := th8_bad (W := (Wn : Int)) (far := a) (x := Str.ofString (((Wn : Int) - 1).repr)) (by omega) a0
  have gn : gNe [.fz (.tuple [.str (Str.ofString "refused"), .str (Str.ofString "number")]), .fz (.tuple [.str (Str.ofString "refused"), .str (Str.ofString "number")])] = some (.val (.bool false)) := by
    unfold gNe
    simp only [Rs.data]
    rw [if_pos (by decide +kernel), show PyData.eqv (.tuple [.str (Str.ofString "refused"), .str (Str.ofString "number")]) (.tuple [.str (Str.ofString "refused"), .str (Str.ofString "number")]) = true by decide +kernel]
    rfl
  obtain ⟨Q, hQ⟩ : ∃ Q : Str, Q = Str.ofString "law" ++ Str.ofString ".<locals>." ++ Str.ofString "<lambda>" := ⟨_, rfl⟩
  rw [← hQ]
  refine ⟨by rw [lb]; decide, ?_⟩
  refine forS_inv (fun _ r => ∃ x6, r = [.frz false (.dict ((.none, .none) :: ns.map fun n => (.int n, .none))), .own false (.lst p4), .frz false (webD m ts), .frz false (.int Wn), .frz false (.int a), .own false (.lst (th8a Wn a)), x6, .own false (.tab P Q)] ∧ Fr x6) _ 0 _ ?_ (fun k d r hd hI => ?_) (fun r hI => ?_)
  · exact ⟨_, rfl, .non⟩
  · obtain ⟨x6, rfl, h6⟩ := hI
    have hb := no d (bad d (by exact List.mem_of_getElem? hd))
    simp [-getElem?_pos, -List.getD_eq_getElem?_getD, -getElem?_neg, List.getElem?_cons_zero, List.getElem?_cons_succ, h6.pin, h6.al, hb, gn]
    first | exact ⟨_, rfl, .frz⟩ | exact .frz | trace_state
  · obtain ⟨x6, rfl, h6⟩ := hI
    simp [-getElem?_pos, -List.getD_eq_getElem?_getD, -getElem?_neg, List.getElem?_cons_zero, List.getElem?_cons_succ, h6.pin, h6.al, e4, e5]
end Lw
end

section
set_option maxHeartbeats 2000000
namespace DL
open PySem PySem.Spec PySem.Calls PyProof.Rows L2
open LamX (CodeO TabS TabB LamS lamEnv)
section
variable {X : Cx} {pins : List (Addr × Obj)} {σ : L2.St} {H : Hp} {s : Shared} {i : Nat} {z : Str}
theorem inv_ghost {v : Option V} (I : Inv X pins σ H s) (hi : X.N[i]? = some z) (hz : ¬ Vis X.env.scope z) : Inv X pins (σ.set i v) H s := by
  refine ⟨I.ok, I.os, I.bare, I.base, ?_, I.cell, I.free, I.freeC, I.pin, I.hok, by rw [List.length_set]; exact I.len⟩
  obtain ⟨m, hn, hl⟩ := I.loc
  refine ⟨m, hn, fun j x w e1 e2 e3 => ?_⟩
  by_cases hj : j = i
  · subst hj
    rw [hi] at e1
    cases e1
    exact absurd e3 hz
  · rw [List.getElem?_set_ne (Ne.symm hj)] at e2
    exact hl j x w e1 e2 e3
theorem pss_ghost {sts : List Stmt} {t : TS} (v : Option V) (h : PSs X sts t) (hi : X.N[i]? = some z) (hz : ¬ Vis X.env.scope z) : PSs X sts (fun D σ H => t D (σ.set i v) H) := ⟨fun pins s σ H D I q => h.run pins s _ H D (inv_ghost I hi hz) q⟩
end
/-- the promise of such a law -/
def spT (K : PySem.W.Frag) (mg : Str → Option Value) (body : S) (N : List Str) (i : Nat) (P : Addr) : Sp := fun vs H Q E =>
  vs.length = 1 ∧ tS ⟨K, mg⟩ (fun c d _ H => E c d H) body { nx := fun _ H' => Q .non H', rt := Q } ((L2.start N vs).set i (some (V.ref P))) H
theorem defT_ok {P : Program} {w : World} {K : PySem.W.Frag} {mg : Str → Option Value} {base : Heap} {x qual : Str} {st : Stmt} {f c Pt : Addr} {N : List Str} {k i : Nat} {y z : Str} {body : S} {kV doc pm ct oc : Value} {an od : Option Addr} {osl : Array (Option Value)}
    (lk : K.lookup f = some ⟨oc, od, .func (PySem.W.fnOf x qual (defArgs st) (defBody st) (defScope st) .none kV doc pm an (.ref c) ct), osl⟩) (hcd : PySem.W.codeIn K (.ref c) qual = true) (Sc : FnScope N [y] (defScope st)) (hi : N[i]? = some z) (hz : ¬ Vis (defScope st) z)
    (hb : ∀ (A : Around) (outer : List Env) (s : Shared) (H : Hp) (E : XK), Room k (A.deeper (envOfC qual (defScope st) s.heap.objs.size f (.ref c))) →
      L2N.Takes (cxOf (L2N.CX P w) P w K mg base N qual (defScope st) f (.ref c) A outer s H E) (fun c d _ H => E c d H) →
      DSs (cxOf (L2N.CX P w) P w K mg base N qual (defScope st) f (.ref c) A outer s H E) (fun c d _ H => E c d H) (defBody st) body) :
    FnOk P w K mg base (L2N.CX P w) (k + 1) f (PySem.W.fnOf x qual (defArgs st) (defBody st) (defScope st) .none kV doc pm an (.ref c) ct) [y] (spT K mg body N i Pt) :=
  fn_of lk hcd Sc (fun vs H Q E h => h.1) fun A outer s H vs Q E hr h => ⟨_, pss_ghost (some (V.ref Pt)) (hb A outer s H E hr (L2N.takes_of rfl rfl rfl rfl)) hi hz, h.2⟩
theorem law_spT {K : PySem.W.Frag} {mg : Str → Option Value} {body : S} {N : List Str} {i m : Nat} {P : Addr} {q : Str} (h0 : 0 < i) (hi : i < N.length)
    (h : ∀ ns : List Int, ns.length ≤ m → ∃ ys, ys.length = 1 ∧ defSem 1 N.length (sSeq (sTab i P q) body) [.fz (scrD ns)] = some (.ok (.val (.bool true)), ys))
    (H : Hp) (a : Addr) (ns : List Int) (hl : ns.length ≤ m) (hP : H P = some (.tbl #[])) (hS : SqL K H a (ns.map V.int)) : spT K mg body N i P [.ref a] H (fun v _ => v = .bl true) fun _ _ _ => False := by
  obtain ⟨ys, hy, e⟩ := h ns hl
  refine ⟨rfl, ?_⟩
  -- all but the table stands still
  have hSB : SqL K (fun b => if b = P then none else H b) a (ns.map V.int) := by
    have at_ : ∀ u, H a = some u → (∀ ps, u ≠ .tbl ps) → (if a = P then none else H a) = some u := fun u hu nt => by
      rw [if_neg fun z => nt #[] (Option.some.inj (hu.symm.trans (by rw [z]; exact hP)))]
      exact hu
    rcases hS with (g | ⟨o, g⟩) | g
    · exact .inl (.inl (at_ _ g fun ps z => by cases z))
    · exact .inl (.inr ⟨o, at_ _ g fun ps z => by cases z⟩)
    · exact .inr g
  have c0 : Con K (fun b => if b = P then none else H b) H ([V.ref a].map some) ([Rs.fz (scrD ns)].map toSl) (fun _ => False) := by
    refine ⟨⟨fun b u z => ?_, fun _ h => h.elim, fun _ h => h.elim, rfl, fun i b d h => ?_, fun i b c h => ?_, fun i j b c b' c' l l' F F' _ h => ?_⟩, fun i j k h => ?_⟩
    · have z : (if b = P then none else H b) = some u := z
      split at z
      · cases z
      · exact z
    · cases i with
      | zero => cases h; exact ⟨.ref a, rfl, .scr hSB rfl⟩
      | succ i => simp at h
    · cases i with
      | zero => cases h
      | succ i => simp at h
    · cases i with
      | zero => cases h
      | succ i => simp at h
    · cases i with
      | zero => cases h
      | succ i => simp at h
  have c1 := c0.pad (N := N) (by simp; omega)
  have c2 := c1.grow (F := [P]) fun b hb => by
    rw [List.mem_singleton.mp hb]
    exact ⟨if_pos rfl, by rw [hP]; simp⟩
  have ls : (L2.start N [V.ref a]).length = N.length := by
    unfold L2.start
    simp
    omega
  have noOwn : ∀ (j : Nat) b ct, ([Rs.fz (scrD ns)].map toSl ++ List.replicate (N.length - [V.ref a].length) Sl.non)[j]? ≠ some (Sl.own b ct) := fun j b ct z => by
    cases j with
    | zero => cases z
    | succ j =>
      simp [List.getElem?_replicate] at z
  have c3 := c2.replace (i := i) (x := .own false (.tab P q)) (σ' := (L2.start N [V.ref a]).set i (some (V.ref P))) List.length_set (fun j n => List.getElem?_set_ne (Ne.symm n))
    ⟨P, [P], List.getElem?_set_self (by omega), ⟨rfl, #[], hP, rfl, True.intro, fun pos cv z => by
      have z : codeAmong pos [] = some cv := z
      simp [codeAmong] at z⟩, fun b hb => .inr hb, fun j b' c' l' F' _ he => absurd he (noOwn j b' c')⟩ (fun b rows z => by cases z)
  unfold defSem at e
  rw [if_pos (show [Rs.fz (scrD ns)].length = 1 from rfl)] at e
  unfold sSeq at e
  unfold sTab at e
  rw [if_pos (by simp; omega)] at e
  simp only at e
  refine ⟨_, _, _, c3, ?_⟩
  cases g : body ((([Rs.fz (scrD ns)].map toSl ++ List.replicate (N.length - [V.ref a].length) Sl.non)).set i (.own false (.tab P q))) with
  | none =>
    rw [show N.length - [V.ref a].length = N.length - 1 from rfl] at g
    rw [g] at e
    cases e
  | some z =>
    obtain ⟨so, r'⟩ := z
    rw [show N.length - [V.ref a].length = N.length - 1 from rfl] at g
    rw [g] at e
    refine ⟨so, r', rfl, ?_⟩
    cases so with
    | nx => cases e
    | brk => cases e
    | cnt => cases e
    | ret v =>
      simp only [Option.some.injEq, Prod.mk.injEq, EO.ok.injEq] at e
      obtain ⟨rfl, _⟩ := e
      exact fun B' H' O' σ' x st ct bt rv => dp_bl rv
    | rets k =>
      simp only [handOn] at e
      split at e
      · split at e
        · cases e
        · cases e
      · cases e
    | exc x => cases e
/-- from the meaning of such a text to the row -/
theorem walk_dT {l : PySem.W.OpenLaw} {n k i : Nat} {q : Program} {loose : List Str} {XP : (Str → Option Value) → Heap → Prop} {YP : World → Heap → Prop} {d : DefRec} {K : Params → PySem.W.Frag} {x qn : Str} {N : List Str} {body : Nat → S}
    (hn : l.most = some n) (hn2 : n ≤ sizeLine) (hdf : d.params.defaults = []) (hr : Room k callerA) (hrec : ((recsOf q).any fun e => e.name == d.name) = true) (hY : ∀ (w : World) (h : Heap), YP w h → (K w.params).In h) (h0 : 0 < i) (hi : i < N.length)
    (ht : ∀ (P : Nat) (ns : List Int), ns.length ≤ n → ∃ ys, ys.length = 1 ∧ defSem 1 N.length (sSeq (sTab i P qn) (body P)) [.fz (scrD ns)] = some (.ok (.val (.bool true)), ys))
    (F : ∀ (w : World) (mg : Str → Option Value) (fa : Addr) (h : Heap), (K w.params).In h → h.Ns mainGlobals mg → mg d.name = some (.ref fa) →
      ∃ (fd : FuncData) (o : Obj) (c P : Addr) (e : Value) (dd : Option Addr) (vs : Array Value) (sl : Array (Option Value)), (K w.params).lookup fa = some o ∧ o.data = .func fd ∧ fd.code = .ref c ∧ (K w.params).lookup c = some ⟨e, dd, .fields vs, sl⟩ ∧ vs[11]? = some (.ref P) ∧ (K w.params).lookup P = none ∧
        (∀ (s : Shared) (v : Value), BindsTo s fd ⟨[v], []⟩ [(x, v)]) ∧ ∀ base : Heap, (K w.params).In base → base.Ns mainGlobals mg → TabB base mg c P → FnOk l.prog w (K w.params) mg base (L2N.CX l.prog w) k fa fd [x] (spT (K w.params) mg (body P) N i P)) :
    PySem.W.WalkO q loose XP YP l.row.toRowW d [] (fun f vs => PySem.call f vs) := by
  refine Att.attach_callB hn hdf fun w s₀ s₁ mg mb fa o pm cd doc a vs ns G Y ho hd hcd hmg hobj hints hlen hbits hg => ?_
  have KX := hY w _ Y
  obtain ⟨fd, o1, c, P, e, dd, vc, sl, k1, k2, k3, k4, k5, nP, hb, hF⟩ := F w mg fa _ KX G.T.g hmg
  obtain ⟨dL, hm, hn1⟩ := List.any_eq_true.mp hrec
  obtain ⟨a', o', fd', c', P', t1, t2, t3, t4, t5, t6⟩ := G.T.tab dL hm
  rw [beq_iff_eq.mp hn1, hmg] at t1
  cases t1
  rw [KX _ _ k1] at t2
  cases t2
  rw [k2] at t3
  cases t3
  rw [k3] at t4
  cases t4
  have C := PySem.W.CodeHd.of t5 t6
  obtain ⟨⟨oc, vc', e1, _, e3, e4⟩, hP⟩ := t6
  rw [KX _ _ k4] at e1
  cases e1
  cases e3
  rw [k5] at e4
  cases e4
  exact LamX.law_callTs (cs := [(c, P)]) (sp := spT (K w.params) mg (body P) N i P) KX G.T.g G.T.b G.T.builtins G.T.nolimit hg (fun p hp => by rw [List.mem_singleton.mp hp]; exact hP) (fun p hp => by rw [List.mem_singleton.mp hp]; exact nP) (fun p hp => by rw [List.mem_singleton.mp hp]; exact C) G.T.bmain hobj hints (Nat.le_trans hlen hn2) hr
    (fun base i1 g1 T1 => hF base i1 g1 (T1 (c, P) (List.mem_singleton.mpr rfl))) hb (fun H hH hS => law_spT h0 hi (ht P) H a ns hlen (hH (c, P) (List.mem_singleton.mpr rfl)) hS) fun H e s' z => cx_no z
end DL
end

section
namespace Lw
open PySem PySem.Spec PyProof.Rows L2 DL
def topS (i : Nat) : Stmt := PySem.Challenge.pw_holefloor_k08_no_number_of_an_order.main.body.getD i (.Pass ⟨0, 0, 0, 0⟩)
abbrev s_is_whole : Stmt := topS 18
abbrev s_place_of : Stmt := topS 20
abbrev s_ends_of : Stmt := topS 21
abbrev s_ends_at : Stmt := topS 22
abbrev s_rows_many : Stmt := topS 24
abbrev s_orders_many : Stmt := topS 25
abbrev s_row_at : Stmt := topS 26
abbrev s_order_at : Stmt := topS 27
abbrev s_row_number : Stmt := topS 28
abbrev s_number_of : Stmt := topS 29
abbrev s_Lpen : Stmt := topS 31
abbrev s_Ldraw : Stmt := topS 32
abbrev s_Lweb : Stmt := topS 33
abbrev s_Lword : Stmt := topS 34
abbrev s_Ltold : Stmt := topS 35
abbrev s_law : Stmt := topS 36
section
variable {P : Program} {w : World} {K : PySem.W.Frag} {mg : Str → Option Value} {base : Heap}
theorem sc_is_whole : FnScope ["thing"] ["thing"] (defScope s_is_whole) := ⟨rfl, rfl, rfl, by decide +kernel, rfl, by decide +kernel, by decide +kernel⟩
set_option maxHeartbeats 4000000 in
theorem ok_is_whole {k : Nat} {f : Addr} {fd : FuncData} (F : Fun K "is_whole" "is_whole" s_is_whole f fd) (z_isinstance : mg "isinstance" = none) (z_int : mg "int" = none) (z_bool : mg "bool" = none) :
    FnOk P w K mg base (L2N.CX P w) (k + 1) f fd ["thing"] (spD K mg (defSem 1 1 b_is_whole_637d) 1) :=
  def_ok (N := ["thing"]) F sc_is_whole (by decide) fun cdv A outer s H E hr tk =>
    (dss_one (ds_ret (de_and (de_isi (t := .int) (by rfl) z_isinstance (by rfl) z_int (do_var (pv 0)) (by decide +kernel)) (de_one (de_not (de_isi (t := .bool) (by rfl) z_isinstance (by rfl) z_bool (do_var (pv 0)) (by decide +kernel)))))))
theorem sc_place_of : FnScope ["web", "end"] ["web", "end"] (defScope s_place_of) := ⟨rfl, rfl, rfl, by decide +kernel, rfl, by decide +kernel, by decide +kernel⟩
set_option maxHeartbeats 4000000 in
theorem ok_place_of {k : Nat} {f : Addr} {fd : FuncData} (F : Fun K "place_of" "place_of" s_place_of f fd) :
    FnOk P w K mg base (L2N.CX P w) (k + 1) f fd ["web", "end"] (spD K mg (defSem 2 2 b_place_of_8c4c) 2) :=
  def_ok (N := ["web", "end"]) F sc_place_of (by decide) fun cdv A outer s H E hr tk =>
    (dss_one (ds_ret (de_ix ixd_get (do_of (de_ix ixd_get (do_of (de_ix ixd_get (do_var (pv 0)) (do_of de_int) (fun _ _ => rfl))) (do_of (de_bin od_div (do_var (pv 1)) (do_of de_int))) (fun _ _ => rfl))) (do_of (de_bin od_mod (do_var (pv 1)) (do_of de_int))) (fun _ _ => rfl))))
theorem sc_ends_of : FnScope ["web"] ["web"] (defScope s_ends_of) := ⟨rfl, rfl, rfl, by decide +kernel, rfl, by decide +kernel, by decide +kernel⟩
set_option maxHeartbeats 4000000 in
theorem ok_ends_of {k : Nat} {f : Addr} {fd : FuncData} (F : Fun K "ends_of" "ends_of" s_ends_of f fd) (z_len : mg "len" = none) :
    FnOk P w K mg base (L2N.CX P w) (k + 1) f fd ["web"] (spD K mg (defSem 1 1 b_ends_of_168e) 1) :=
  def_ok (N := ["web"]) F sc_ends_of (by decide) fun cdv A outer s H E hr tk =>
    (dss_one (ds_ret (de_bin od_mul (do_of de_int) (do_of (de_cb cd_len (by rfl) z_len (by decide +kernel) (da_cons (do_of (de_ix ixd_get (do_var (pv 0)) (do_of de_int) (fun _ _ => rfl))) da_nil))))))
theorem sc_ends_at : FnScope ["web", "place", "end"] ["web", "place"] (defScope s_ends_at) := ⟨rfl, rfl, rfl, by decide +kernel, rfl, by decide +kernel, by decide +kernel⟩
set_option maxHeartbeats 4000000 in
theorem ok_ends_at {k : Nat} {f : Addr} {fd : FuncData} (F : Fun K "ends_at" "ends_at" s_ends_at f fd) {f_ends_of : Addr} {fd_ends_of : FuncData} (G_ends_of : FnOk P w K mg base (L2N.CX P w) k f_ends_of fd_ends_of ["web"] (spD K mg sem_ends_of_168e 1)) (g_ends_of : mg "ends_of" = some (.ref f_ends_of)) (k_ends_of : PySem.W.keepIn K (.ref f_ends_of) = true) (B_ends_of : Binds K fd_ends_of ["web"] []) {f_place_of : Addr} {fd_place_of : FuncData} (G_place_of : FnOk P w K mg base (L2N.CX P w) k f_place_of fd_place_of ["web", "end"] (spD K mg sem_place_of_8c4c 2)) (g_place_of : mg "place_of" = some (.ref f_place_of)) (k_place_of : PySem.W.keepIn K (.ref f_place_of) = true) (B_place_of : Binds K fd_place_of ["web", "end"] []) (z_range : mg "range" = none) :
    FnOk P w K mg base (L2N.CX P w) (k + 1) f fd ["web", "place"] (spD K mg (defSem 2 3 b_ends_at_2b9c) 2) :=
  def_ok (N := ["web", "place", "end"]) F sc_ends_at (by decide) fun cdv A outer s H E hr tk =>
    (dss_one (ds_ret (de_lc (own := [("end", 2)]) rfl sc_ends_at.nd (di_rng1 (by rfl) z_range (do_of (de_call tk G_ends_of hr (by rfl) g_ends_of k_ends_of B_ends_of rfl (da_cons (do_var (pv 0)) da_nil)))) (blkOk_by (own := [("end", 2)]) (by first | rfl | decide +kernel)) (fun _ _ _ _ _ => (dg_name sc_ends_at.nd rfl (by first | exact Or.inl rfl | exact Or.inr rfl))) (fun _ _ _ _ _ => (dts_one (db_cmp (od_eq hr.units) (do_of (de_call takesN0 G_place_of hr (by rfl) g_place_of k_place_of B_place_of rfl (da_cons (do_var (pv 0)) (da_cons (do_var (pv 2)) da_nil)))) (do_var (pv 1)) (nomark _)))) (fun _ _ _ _ _ => (de_var (pv 2))) (by decide))))
theorem sc_rows_many : FnScope ["ends", "many", "k"] ["ends"] (defScope s_rows_many) := ⟨rfl, rfl, rfl, by decide +kernel, rfl, by decide +kernel, by decide +kernel⟩
set_option maxHeartbeats 4000000 in
theorem ok_rows_many {k : Nat} {f : Addr} {fd : FuncData} (F : Fun K "rows_many" "rows_many" s_rows_many f fd) (z_range : mg "range" = none) :
    FnOk P w K mg base (L2N.CX P w) (k + 1) f fd ["ends"] (spD K mg (defSem 1 3 b_rows_many_c3e5) 1) :=
  def_ok (N := ["ends", "many", "k"]) F sc_rows_many (by decide) fun cdv A outer s H E hr tk =>
    (dss_cons (ds_set (i := 1) sc_rows_many.nd rfl (by first | exact Or.inl rfl | exact Or.inr rfl) de_int)
    (dss_cons (ds_for (passes_of rfl) rfl (di_rng2 (by rfl) z_range (do_of de_int) (do_var (pv 0))) (dg_name sc_rows_many.nd rfl (by first | exact Or.inl rfl | exact Or.inr rfl)) (dss_one (ds_set (i := 1) sc_rows_many.nd rfl (by first | exact Or.inl rfl | exact Or.inr rfl) (de_bin od_mul (do_var (pv 1)) (do_var (pv 2))))))
    (dss_one (ds_ret (de_var (pv 1))))))
theorem sc_orders_many : FnScope ["web", "many", "place"] ["web"] (defScope s_orders_many) := ⟨rfl, rfl, rfl, by decide +kernel, rfl, by decide +kernel, by decide +kernel⟩
set_option maxHeartbeats 4000000 in
theorem ok_orders_many {k : Nat} {f : Addr} {fd : FuncData} (F : Fun K "orders_many" "orders_many" s_orders_many f fd) {f_rows_many : Addr} {fd_rows_many : FuncData} (G_rows_many : FnOk P w K mg base (L2N.CX P w) k f_rows_many fd_rows_many ["ends"] (spD K mg sem_rows_many_c3e5 1)) (g_rows_many : mg "rows_many" = some (.ref f_rows_many)) (k_rows_many : PySem.W.keepIn K (.ref f_rows_many) = true) (B_rows_many : Binds K fd_rows_many ["ends"] []) {f_ends_at : Addr} {fd_ends_at : FuncData} (G_ends_at : FnOk P w K mg base (L2N.CX P w) k f_ends_at fd_ends_at ["web", "place"] (spD K mg sem_ends_at_2b9c 2)) (g_ends_at : mg "ends_at" = some (.ref f_ends_at)) (k_ends_at : PySem.W.keepIn K (.ref f_ends_at) = true) (B_ends_at : Binds K fd_ends_at ["web", "place"] []) (z_range : mg "range" = none) (z_len : mg "len" = none) :
    FnOk P w K mg base (L2N.CX P w) (k + 1) f fd ["web"] (spD K mg (defSem 1 3 b_orders_many_0e37) 1) :=
  def_ok (N := ["web", "many", "place"]) F sc_orders_many (by decide) fun cdv A outer s H E hr tk =>
    (dss_cons (ds_set (i := 1) sc_orders_many.nd rfl (by first | exact Or.inl rfl | exact Or.inr rfl) de_int)
    (dss_cons (ds_for (passes_of rfl) rfl (di_rng1 (by rfl) z_range (do_of (de_ix ixd_get (do_var (pv 0)) (do_of de_int) (fun _ _ => rfl)))) (dg_name sc_orders_many.nd rfl (by first | exact Or.inl rfl | exact Or.inr rfl)) (dss_one (ds_set (i := 1) sc_orders_many.nd rfl (by first | exact Or.inl rfl | exact Or.inr rfl) (de_bin od_mul (do_var (pv 1)) (do_of (de_call tk G_rows_many hr (by rfl) g_rows_many k_rows_many B_rows_many rfl (da_cons (do_of (de_cb cd_len (by rfl) z_len (by decide +kernel) (da_cons (do_of (de_call tk G_ends_at hr (by rfl) g_ends_at k_ends_at B_ends_at rfl (da_cons (do_var (pv 0)) (da_cons (do_var (pv 2)) da_nil)))) da_nil))) da_nil)))))))
    (dss_one (ds_ret (de_var (pv 1))))))
theorem sc_row_at : FnScope ["ends", "number", "left", "row", "ways"] ["ends", "number"] (defScope s_row_at) := ⟨rfl, rfl, rfl, by decide +kernel, rfl, by decide +kernel, by decide +kernel⟩
set_option maxHeartbeats 4000000 in
theorem ok_row_at {k : Nat} {f : Addr} {fd : FuncData} (F : Fun K "row_at" "row_at" s_row_at f fd) {f_rows_many : Addr} {fd_rows_many : FuncData} (G_rows_many : FnOk P w K mg base (L2N.CX P w) k f_rows_many fd_rows_many ["ends"] (spD K mg sem_rows_many_c3e5 1)) (g_rows_many : mg "rows_many" = some (.ref f_rows_many)) (k_rows_many : PySem.W.keepIn K (.ref f_rows_many) = true) (B_rows_many : Binds K fd_rows_many ["ends"] []) (z_list : mg "list" = none) (z_len : mg "len" = none) (z_tuple : mg "tuple" = none) :
    FnOk P w K mg base (L2N.CX P w) (k + 1) f fd ["ends", "number"] (spD K mg (defSem 2 5 b_row_at_886b) 2) :=
  def_ok (N := ["ends", "number", "left", "row", "ways"]) F sc_row_at (by decide) fun cdv A outer s H E hr tk =>
    (dss_cons (ds_set (i := 2) sc_row_at.nd rfl (by first | exact Or.inl rfl | exact Or.inr rfl) (de_ct cd_list (by rfl) z_list (by decide +kernel) (da_cons (do_var (pv 0)) da_nil)))
    (dss_cons (ds_set (i := 3) sc_row_at.nd rfl (by first | exact Or.inl rfl | exact Or.inr rfl) (de_slice (do_var (pv 2)) dp_none (dp_some (do_of de_int))))
    (dss_cons (ds_set (i := 2) sc_row_at.nd rfl (by first | exact Or.inl rfl | exact Or.inr rfl) (de_slice (do_var (pv 2)) (dp_some (do_of de_int)) dp_none))
    (dss_cons (ds_while (passes_of rfl) (db_cmp od_gt (do_of (de_cb cd_len (by rfl) z_len (by decide +kernel) (da_cons (do_var (pv 2)) da_nil))) (do_of de_int) (nomark _)) (dss_cons (ds_set (i := 4) sc_row_at.nd rfl (by first | exact Or.inl rfl | exact Or.inr rfl) (de_call tk G_rows_many hr (by rfl) g_rows_many k_rows_many B_rows_many rfl (da_cons (do_of (de_cb cd_len (by rfl) z_len (by decide +kernel) (da_cons (do_var (pv 2)) da_nil))) da_nil)))
    (dss_cons (ds_expr (de_mut PySem.F.plainAttrs_list PySem.F.slot_list_append PySem.F.type_list_append md_append (pv 3) (da_cons (do_of (de_mut PySem.F.plainAttrs_list PySem.F.slot_list_pop PySem.F.type_list_pop md_pop (pv 2) (da_cons (do_of (de_bin od_div (do_var (pv 1)) (do_var (pv 4)))) da_nil))) da_nil)))
    (dss_one (ds_set (i := 1) sc_row_at.nd rfl (by first | exact Or.inl rfl | exact Or.inr rfl) (de_bin od_mod (do_var (pv 1)) (do_var (pv 4))))))))
    (dss_one (ds_ret (de_ct cd_tuple (by rfl) z_tuple (by decide +kernel) (da_cons (do_var (pv 3)) da_nil))))))))
theorem sc_order_at : FnScope ["web", "number", "rows", "place", "ends", "one"] ["web", "number"] (defScope s_order_at) := ⟨rfl, rfl, rfl, by decide +kernel, rfl, by decide +kernel, by decide +kernel⟩
set_option maxHeartbeats 4000000 in
theorem ok_order_at {k : Nat} {f : Addr} {fd : FuncData} (F : Fun K "order_at" "order_at" s_order_at f fd) {f_is_whole : Addr} {fd_is_whole : FuncData} (G_is_whole : FnOk P w K mg base (L2N.CX P w) k f_is_whole fd_is_whole ["thing"] (spD K mg sem_is_whole_637d 1)) (g_is_whole : mg "is_whole" = some (.ref f_is_whole)) (k_is_whole : PySem.W.keepIn K (.ref f_is_whole) = true) (B_is_whole : Binds K fd_is_whole ["thing"] []) {f_orders_many : Addr} {fd_orders_many : FuncData} (G_orders_many : FnOk P w K mg base (L2N.CX P w) k f_orders_many fd_orders_many ["web"] (spD K mg sem_orders_many_0e37 1)) (g_orders_many : mg "orders_many" = some (.ref f_orders_many)) (k_orders_many : PySem.W.keepIn K (.ref f_orders_many) = true) (B_orders_many : Binds K fd_orders_many ["web"] []) {f_ends_at : Addr} {fd_ends_at : FuncData} (G_ends_at : FnOk P w K mg base (L2N.CX P w) k f_ends_at fd_ends_at ["web", "place"] (spD K mg sem_ends_at_2b9c 2)) (g_ends_at : mg "ends_at" = some (.ref f_ends_at)) (k_ends_at : PySem.W.keepIn K (.ref f_ends_at) = true) (B_ends_at : Binds K fd_ends_at ["web", "place"] []) {f_rows_many : Addr} {fd_rows_many : FuncData} (G_rows_many : FnOk P w K mg base (L2N.CX P w) k f_rows_many fd_rows_many ["ends"] (spD K mg sem_rows_many_c3e5 1)) (g_rows_many : mg "rows_many" = some (.ref f_rows_many)) (k_rows_many : PySem.W.keepIn K (.ref f_rows_many) = true) (B_rows_many : Binds K fd_rows_many ["ends"] []) {f_row_at : Addr} {fd_row_at : FuncData} (G_row_at : FnOk P w K mg base (L2N.CX P w) k f_row_at fd_row_at ["ends", "number"] (spD K mg sem_row_at_886b 2)) (g_row_at : mg "row_at" = some (.ref f_row_at)) (k_row_at : PySem.W.keepIn K (.ref f_row_at) = true) (B_row_at : Binds K fd_row_at ["ends", "number"] []) (z_reversed : mg "reversed" = none) (z_range : mg "range" = none) (z_len : mg "len" = none) (z_divmod : mg "divmod" = none) (z_tuple : mg "tuple" = none) {C_NoNumber : Addr} (x_NoNumber : ExK K mg "NoNumber" C_NoNumber) :
    FnOk P w K mg base (L2N.CX P w) (k + 1) f fd ["web", "number"] (spD K mg (defSem 2 6 b_order_at_e71fR) 2) :=
  def_ok (N := ["web", "number", "rows", "place", "ends", "one"]) F sc_order_at (by decide) fun cdv A outer s H E hr tk =>
    (dss_cons (ds_if (db_w (dw_or (db_not (db_val (de_call tk G_is_whole hr (by rfl) g_is_whole k_is_whole B_is_whole rfl (da_cons (do_var (pv 1)) da_nil)))) (dw_or (db_cmp od_lt (do_var (pv 1)) (do_of de_int) (nomark _)) (dw_or1 (db_cmp od_ge (do_var (pv 1)) (do_of (de_call tk G_orders_many hr (by rfl) g_orders_many k_orders_many B_orders_many rfl (da_cons (do_var (pv 0)) da_nil))) (nomark _)))))) (dss_one (ds_raise (cls := "NoNumber") rfl tk x_NoNumber (by rfl))) dss_nil)
    (dss_cons (ds_set (i := 2) sc_order_at.nd rfl (by first | exact Or.inl rfl | exact Or.inr rfl) (de_lst da_nil))
    (dss_cons (ds_for (passes_of rfl) rfl (di_revR (by rfl) z_reversed (by rfl) z_range (do_of (de_ix ixd_get (do_var (pv 0)) (do_of de_int) (fun _ _ => rfl)))) (dg_name sc_order_at.nd rfl (by first | exact Or.inl rfl | exact Or.inr rfl)) (dss_cons (ds_set (i := 4) sc_order_at.nd rfl (by first | exact Or.inl rfl | exact Or.inr rfl) (de_call tk G_ends_at hr (by rfl) g_ends_at k_ends_at B_ends_at rfl (da_cons (do_var (pv 0)) (da_cons (do_var (pv 3)) da_nil))))
    (dss_cons (ds_dvm (by rfl) z_divmod (do_var (pv 1)) (do_of (de_call tk G_rows_many hr (by rfl) g_rows_many k_rows_many B_rows_many rfl (da_cons (do_of (de_cb cd_len (by rfl) z_len (by decide +kernel) (da_cons (do_var (pv 4)) da_nil))) da_nil))) (dg_tup rfl (dgs_cons (dg_name sc_order_at.nd rfl (by first | exact Or.inl rfl | exact Or.inr rfl)) (dgs_cons (dg_name sc_order_at.nd rfl (by first | exact Or.inl rfl | exact Or.inr rfl)) dgs_nil))) (setT_nx (by simp only [List.forall_mem_cons, List.not_mem_nil, false_imp_iff, implies_true, and_true]; exact ⟨setN_nx _, setN_nx _⟩)))
    (dss_one (ds_expr (de_mut PySem.F.plainAttrs_list PySem.F.slot_list_append PySem.F.type_list_append md_append (pv 2) (da_cons (do_of (de_call tk G_row_at hr (by rfl) g_row_at k_row_at B_row_at rfl (da_cons (do_var (pv 4)) (da_cons (do_var (pv 5)) da_nil)))) da_nil)))))))
    (dss_one (ds_ret (de_tupRev rfl (by rfl) z_tuple (by rfl) z_reversed (do_var (pv 2))))))))
theorem sc_row_number : FnScope ["row", "number", "left", "end", "at"] ["row"] (defScope s_row_number) := ⟨rfl, rfl, rfl, by decide +kernel, rfl, by decide +kernel, by decide +kernel⟩
set_option maxHeartbeats 4000000 in
theorem ok_row_number {k : Nat} {f : Addr} {fd : FuncData} (F : Fun K "row_number" "row_number" s_row_number f fd) {f_rows_many : Addr} {fd_rows_many : FuncData} (G_rows_many : FnOk P w K mg base (L2N.CX P w) k f_rows_many fd_rows_many ["ends"] (spD K mg sem_rows_many_c3e5 1)) (g_rows_many : mg "rows_many" = some (.ref f_rows_many)) (k_rows_many : PySem.W.keepIn K (.ref f_rows_many) = true) (B_rows_many : Binds K fd_rows_many ["ends"] []) (z_sorted : mg "sorted" = none) (z_len : mg "len" = none) :
    FnOk P w K mg base (L2N.CX P w) (k + 1) f fd ["row"] (spD K mg (defSem 1 5 b_row_number_7a06) 1) :=
  def_ok (N := ["row", "number", "left", "end", "at"]) F sc_row_number (by decide) fun cdv A outer s H E hr tk =>
    (dss_cons (ds_set (i := 1) sc_row_number.nd rfl (by first | exact Or.inl rfl | exact Or.inr rfl) de_int)
    (dss_cons (ds_set (i := 2) sc_row_number.nd rfl (by first | exact Or.inl rfl | exact Or.inr rfl) (de_slice (do_of (de_cb (cd_sorted hr.units) (by rfl) z_sorted (by decide +kernel) (da_cons (do_var (pv 0)) da_nil))) (dp_some (do_of de_int)) dp_none))
    (dss_cons (ds_for (passes_of rfl) rfl (di_seq (lo := false) (de_slice (do_var (pv 0)) (dp_some (do_of de_int)) dp_none)) (dg_name sc_row_number.nd rfl (by first | exact Or.inl rfl | exact Or.inr rfl)) (dss_cons (ds_set (i := 4) sc_row_number.nd rfl (by first | exact Or.inl rfl | exact Or.inr rfl) (de_indexO (pv 2) (do_var (pv 3))))
    (dss_cons (ds_set (i := 1) sc_row_number.nd rfl (by first | exact Or.inl rfl | exact Or.inr rfl) (de_bin od_add (do_var (pv 1)) (do_of (de_bin od_mul (do_var (pv 4)) (do_of (de_call tk G_rows_many hr (by rfl) g_rows_many k_rows_many B_rows_many rfl (da_cons (do_of (de_cb cd_len (by rfl) z_len (by decide +kernel) (da_cons (do_var (pv 2)) da_nil))) da_nil)))))))
    (dss_one (ds_expr (de_mut PySem.F.plainAttrs_list PySem.F.slot_list_pop PySem.F.type_list_pop md_pop (pv 2) (da_cons (do_of (de_var (pv 4))) da_nil)))))))
    (dss_one (ds_ret (de_var (pv 1)))))))
theorem sc_number_of : FnScope ["web", "order", "number", "row"] ["web", "order"] (defScope s_number_of) := ⟨rfl, rfl, rfl, by decide +kernel, rfl, by decide +kernel, by decide +kernel⟩
set_option maxHeartbeats 4000000 in
theorem ok_number_of {k : Nat} {f : Addr} {fd : FuncData} (F : Fun K "number_of" "number_of" s_number_of f fd) {f_rows_many : Addr} {fd_rows_many : FuncData} (G_rows_many : FnOk P w K mg base (L2N.CX P w) k f_rows_many fd_rows_many ["ends"] (spD K mg sem_rows_many_c3e5 1)) (g_rows_many : mg "rows_many" = some (.ref f_rows_many)) (k_rows_many : PySem.W.keepIn K (.ref f_rows_many) = true) (B_rows_many : Binds K fd_rows_many ["ends"] []) {f_row_number : Addr} {fd_row_number : FuncData} (G_row_number : FnOk P w K mg base (L2N.CX P w) k f_row_number fd_row_number ["row"] (spD K mg sem_row_number_7a06 1)) (g_row_number : mg "row_number" = some (.ref f_row_number)) (k_row_number : PySem.W.keepIn K (.ref f_row_number) = true) (B_row_number : Binds K fd_row_number ["row"] []) (z_len : mg "len" = none) :
    FnOk P w K mg base (L2N.CX P w) (k + 1) f fd ["web", "order"] (spD K mg (defSem 2 4 b_number_of_1429) 2) :=
  def_ok (N := ["web", "order", "number", "row"]) F sc_number_of (by decide) fun cdv A outer s H E hr tk =>
    (dss_cons (ds_set (i := 2) sc_number_of.nd rfl (by first | exact Or.inl rfl | exact Or.inr rfl) de_int)
    (dss_cons (ds_for (passes_of rfl) rfl (di_seq (lo := false) (de_var (pv 1))) (dg_name sc_number_of.nd rfl (by first | exact Or.inl rfl | exact Or.inr rfl)) (dss_one (ds_set (i := 2) sc_number_of.nd rfl (by first | exact Or.inl rfl | exact Or.inr rfl) (de_bin od_add (do_of (de_bin od_mul (do_var (pv 2)) (do_of (de_call tk G_rows_many hr (by rfl) g_rows_many k_rows_many B_rows_many rfl (da_cons (do_of (de_cb cd_len (by rfl) z_len (by decide +kernel) (da_cons (do_var (pv 3)) da_nil))) da_nil))))) (do_of (de_call tk G_row_number hr (by rfl) g_row_number k_row_number B_row_number rfl (da_cons (do_var (pv 3)) da_nil)))))))
    (dss_one (ds_ret (de_var (pv 2))))))
theorem sc_Lpen : FnScope ["_law_script", "_law_cell"] ["_law_script"] (defScope s_Lpen) := ⟨rfl, rfl, rfl, by decide +kernel, rfl, by decide +kernel, by decide +kernel⟩
set_option maxHeartbeats 4000000 in
theorem ok_Lpen {k : Nat} {f : Addr} {fd : FuncData} (F : Fun K "_law_pen" "_law_pen" s_Lpen f fd) :
    FnOk P w K mg base (L2N.CX P w) (k + 1) f fd ["_law_script"] (spD K mg (defSem 1 2 b_Lpen_3d2f) 1) :=
  def_ok (N := ["_law_script", "_law_cell"]) F sc_Lpen (by decide) fun cdv A outer s H E hr tk =>
    (dss_one (ds_ret (de_lst (da_cons (do_of (de_lc (own := [("_law_cell", 1)]) rfl sc_Lpen.nd (di_seq (lo := false) (de_slice (do_var (pv 0)) dp_none (dp_some (do_of de_int)))) (blkOk_by (own := [("_law_cell", 1)]) (by first | rfl | decide +kernel)) (fun _ _ _ _ _ => (dg_name sc_Lpen.nd rfl (by first | exact Or.inl rfl | exact Or.inr rfl))) (fun _ _ _ _ _ => dts_nil) (fun _ _ _ _ _ => (de_var (pv 1))) (by decide))) (da_cons (do_of de_int) (da_cons (do_of de_int) da_nil))))))
theorem sc_Ldraw : FnScope ["_law_pen_here", "_law_many", "_law_at", "_law_cell", "_law_number", "_law_digit"] ["_law_pen_here", "_law_many"] (defScope s_Ldraw) := ⟨rfl, rfl, rfl, by decide +kernel, rfl, by decide +kernel, by decide +kernel⟩
set_option maxHeartbeats 4000000 in
theorem ok_Ldraw {k : Nat} {f : Addr} {fd : FuncData} (F : Fun K "_law_draw" "_law_draw" s_Ldraw f fd) (z_len : mg "len" = none) (z_abs : mg "abs" = none) :
    FnOk P w K mg base (L2N.CX P w) (k + 1) f fd ["_law_pen_here", "_law_many"] (spD K mg (defSem 2 6 b_Ldraw_de5b) 2) :=
  def_ok (N := ["_law_pen_here", "_law_many", "_law_at", "_law_cell", "_law_number", "_law_digit"]) F sc_Ldraw (by decide) fun cdv A outer s H E hr tk =>
    (dss_cons (ds_if (db_cmp od_gt (do_of (de_ix ixd_get (do_var (pv 0)) (do_of de_int) (fun _ _ => rfl))) (do_of de_int) (nomark _)) (dss_cons (ds_set (i := 5) sc_Ldraw.nd rfl (by first | exact Or.inl rfl | exact Or.inr rfl) (de_bin od_mod (do_of (de_ix ixd_get (do_var (pv 0)) (do_of de_int) (fun _ _ => rfl))) (do_var (pv 1))))
    (dss_cons (ds_sub (pv 0) (de_bin od_div (do_of (de_ix ixd_get (do_var (pv 0)) (do_of de_int) (fun _ _ => rfl))) (do_var (pv 1))) (do_of de_int))
    (dss_one (ds_ret (de_var (pv 5)))))) dss_nil)
    (dss_cons (ds_set (i := 2) sc_Ldraw.nd rfl (by first | exact Or.inl rfl | exact Or.inr rfl) (de_ix ixd_get (do_var (pv 0)) (do_of de_int) (fun _ _ => rfl)))
    (dss_cons (ds_sub (pv 0) (de_bin od_add (do_var (pv 2)) (do_of de_int)) (do_of de_int))
    (dss_cons (ds_set (i := 3) sc_Ldraw.nd rfl (by first | exact Or.inl rfl | exact Or.inr rfl) de_int)
    (dss_cons (ds_if (db_cmp od_gt (do_of (de_cb cd_len (by rfl) z_len (by decide +kernel) (da_cons (do_of (de_ix ixd_get (do_var (pv 0)) (do_of de_int) (fun _ _ => rfl))) da_nil))) (do_of de_int) (nomark _)) (dss_one (ds_set (i := 3) sc_Ldraw.nd rfl (by first | exact Or.inl rfl | exact Or.inr rfl) (de_ix ixd_get (do_of (de_ix ixd_get (do_var (pv 0)) (do_of de_int) (fun _ _ => rfl))) (do_of (de_bin od_mod (do_var (pv 2)) (do_of (de_cb cd_len (by rfl) z_len (by decide +kernel) (da_cons (do_of (de_ix ixd_get (do_var (pv 0)) (do_of de_int) (fun _ _ => rfl))) da_nil))))) (fun _ _ => rfl)))) dss_nil)
    (dss_cons (ds_if (db_w (dw_and (db_cmp od_lt (do_var (pv 2)) (do_of (de_cb cd_len (by rfl) z_len (by decide +kernel) (da_cons (do_of (de_ix ixd_get (do_var (pv 0)) (do_of de_int) (fun _ _ => rfl))) da_nil))) (nomark _)) (dw_and1 (db_cmp od_ge (do_of (de_cb cd_abs (by rfl) z_abs (by decide +kernel) (da_cons (do_var (pv 3)) da_nil))) (do_of (de_bin od_pow (do_of de_int) (do_of de_int))) (nomark _))))) (dss_cons (ds_sub (pv 0) (de_bin od_div (do_of (de_cb cd_abs (by rfl) z_abs (by decide +kernel) (da_cons (do_var (pv 3)) da_nil))) (do_var (pv 1))) (do_of de_int))
    (dss_one (ds_ret (de_bin od_mod (do_of (de_cb cd_abs (by rfl) z_abs (by decide +kernel) (da_cons (do_var (pv 3)) da_nil))) (do_var (pv 1)))))) dss_nil)
    (dss_cons (ds_set (i := 4) sc_Ldraw.nd rfl (by first | exact Or.inl rfl | exact Or.inr rfl) (de_bin od_mod (do_of (de_bin od_mul (do_of (de_bin od_add (do_of (de_bin od_add (do_of (de_bin od_mod (do_var (pv 3)) (do_of de_int))) (do_of (de_bin od_mul (do_of de_int) (do_var (pv 2)))))) (do_of de_int))) (do_of de_int))) (do_of de_int)))
    (dss_cons (ds_set (i := 4) sc_Ldraw.nd rfl (by first | exact Or.inl rfl | exact Or.inr rfl) (de_bin od_mod (do_of (de_bin od_add (do_of (de_bin od_add (do_of (de_bin od_mul (do_var (pv 4)) (do_var (pv 4)))) (do_of (de_bin od_mul (do_of de_int) (do_var (pv 4)))))) (do_var (pv 2)))) (do_of de_int)))
    (dss_one (ds_ret (de_bin od_mod (do_of (de_bin od_div (do_of (de_bin od_mod (do_of (de_bin od_mul (do_var (pv 4)) (do_of de_int))) (do_of de_int))) (do_of de_int))) (do_var (pv 1)))))))))))))
theorem sc_Lweb : FnScope ["_law_pen_here", "_law_places", "_law_ties", "_law_many", "_law_way", "_law_count", "_law_found", "_law_k", "_law_a", "_law_b"] ["_law_pen_here", "_law_places", "_law_ties"] (defScope s_Lweb) := ⟨rfl, rfl, rfl, by decide +kernel, rfl, by decide +kernel, by decide +kernel⟩
set_option maxHeartbeats 4000000 in
theorem ok_Lweb {k : Nat} {f : Addr} {fd : FuncData} (F : Fun K "_law_web" "_law_web" s_Lweb f fd) {f_Ldraw : Addr} {fd_Ldraw : FuncData} (G_Ldraw : FnOk P w K mg base (L2N.CX P w) k f_Ldraw fd_Ldraw ["_law_pen_here", "_law_many"] (spD K mg sem_Ldraw_de5b 2)) (g_Ldraw : mg "_law_draw" = some (.ref f_Ldraw)) (k_Ldraw : PySem.W.keepIn K (.ref f_Ldraw) = true) (B_Ldraw : Binds K fd_Ldraw ["_law_pen_here", "_law_many"] []) (z_range : mg "range" = none) (z_min : mg "min" = none) (z_tuple : mg "tuple" = none) :
    FnOk P w K mg base (L2N.CX P w) (k + 1) f fd ["_law_pen_here", "_law_places", "_law_ties"] (spD K mg (defSem 3 10 b_Lweb_0350) 3) :=
  def_ok (N := ["_law_pen_here", "_law_places", "_law_ties", "_law_many", "_law_way", "_law_count", "_law_found", "_law_k", "_law_a", "_law_b"]) F sc_Lweb (by decide) fun cdv A outer s H E hr tk =>
    (dss_cons (ds_set (i := 3) sc_Lweb.nd rfl (by first | exact Or.inl rfl | exact Or.inr rfl) (de_bin od_add (do_of de_int) (do_of (de_call tk G_Ldraw hr (by rfl) g_Ldraw k_Ldraw B_Ldraw rfl (da_cons (do_var (pv 0)) (da_cons (do_var (pv 1)) da_nil))))))
    (dss_cons (ds_set (i := 4) sc_Lweb.nd rfl (by first | exact Or.inl rfl | exact Or.inr rfl) (de_call tk G_Ldraw hr (by rfl) g_Ldraw k_Ldraw B_Ldraw rfl (da_cons (do_var (pv 0)) (da_cons (do_of de_int) da_nil))))
    (dss_cons (ds_set (i := 5) sc_Lweb.nd rfl (by first | exact Or.inl rfl | exact Or.inr rfl) (de_call tk G_Ldraw hr (by rfl) g_Ldraw k_Ldraw B_Ldraw rfl (da_cons (do_var (pv 0)) (da_cons (do_of (de_bin od_add (do_var (pv 2)) (do_of de_int))) da_nil))))
    (dss_cons (ds_if (db_cmp (od_eq hr.units) (do_var (pv 4)) (do_of de_int) (nomark _)) (dss_cons (ds_set (i := 3) sc_Lweb.nd rfl (by first | exact Or.inl rfl | exact Or.inr rfl) (de_var (pv 1)))
    (dss_one (ds_set (i := 5) sc_Lweb.nd rfl (by first | exact Or.inl rfl | exact Or.inr rfl) (de_var (pv 2))))) dss_nil)
    (dss_cons (ds_set (i := 6) sc_Lweb.nd rfl (by first | exact Or.inl rfl | exact Or.inr rfl) (de_lst da_nil))
    (dss_cons (ds_for (passes_of rfl) rfl (di_rng1 (by rfl) z_range (do_var (pv 5))) (dg_name sc_Lweb.nd rfl (by first | exact Or.inl rfl | exact Or.inr rfl)) (dss_cons (ds_par (i := 8) (j := 9) rfl sc_Lweb.nd rfl rfl (by decide) rfl rfl (de_call tk G_Ldraw hr (by rfl) g_Ldraw k_Ldraw B_Ldraw rfl (da_cons (do_var (pv 0)) (da_cons (do_var (pv 3)) da_nil))) (de_call tk G_Ldraw hr (by rfl) g_Ldraw k_Ldraw B_Ldraw rfl (da_cons (do_var (pv 0)) (da_cons (do_var (pv 3)) da_nil))) (by rfl))
    (dss_cons (ds_if (db_cmp (od_eq hr.units) (do_var (pv 4)) (do_of de_int) (nomark _)) (dss_one (ds_par (i := 8) (j := 9) rfl sc_Lweb.nd rfl rfl (by decide) rfl rfl (de_bin od_mod (do_var (pv 7)) (do_var (pv 3))) (de_bin od_mod (do_of (de_bin od_add (do_var (pv 7)) (do_of de_int))) (do_var (pv 3))) (by rfl))) dss_nil)
    (dss_cons (ds_if (db_cmp (od_eq hr.units) (do_var (pv 4)) (do_of de_int) (nomark _)) (dss_one (ds_set (i := 8) sc_Lweb.nd rfl (by first | exact Or.inl rfl | exact Or.inr rfl) de_int)) dss_nil)
    (dss_cons (ds_if (db_cmp (od_eq hr.units) (do_var (pv 4)) (do_of de_int) (nomark _)) (dss_one (ds_set (i := 9) sc_Lweb.nd rfl (by first | exact Or.inl rfl | exact Or.inr rfl) (de_bin od_add (do_of (de_bin od_mod (do_var (pv 8)) (do_of de_int))) (do_of (de_bin od_mul (do_of (de_bin od_div (do_var (pv 9)) (do_of de_int))) (do_of de_int)))))) dss_nil)
    (dss_cons (ds_if (db_w (dw_and (db_cmp (od_eq hr.units) (do_var (pv 4)) (do_of de_int) (nomark _)) (dw_and1 (db_cmp (od_eq hr.units) (do_of (de_bin od_mod (do_var (pv 9)) (do_of de_int))) (do_of de_int) (nomark _))))) (dss_one (ds_set (i := 9) sc_Lweb.nd rfl (by first | exact Or.inl rfl | exact Or.inr rfl) (de_var (pv 8)))) dss_nil)
    (dss_one (ds_expr (de_mut PySem.F.plainAttrs_list PySem.F.slot_list_append PySem.F.type_list_append md_append (pv 6) (da_cons (do_of (de_tup (da_cons (do_of (de_var (pv 8))) (da_cons (do_of (de_cb (cd_min2 rfl) (by rfl) z_min (by decide +kernel) (da_cons (do_var (pv 9)) (da_cons (do_of (de_bin od_sub (do_var (pv 3)) (do_of de_int))) da_nil)))) da_nil)))) da_nil))))))))))
    (dss_one (ds_ret (de_tup (da_cons (do_of (de_var (pv 3))) (da_cons (do_of (de_ct cd_tuple (by rfl) z_tuple (by decide +kernel) (da_cons (do_var (pv 6)) da_nil))) da_nil)))))))))))
theorem sc_Lword : FnScope ["_law_e", "_law_some", "_law_found", "_law_word_here", "_law_one"] ["_law_e"] (defScope s_Lword) := ⟨rfl, rfl, rfl, by decide +kernel, rfl, by decide +kernel, by decide +kernel⟩
set_option maxHeartbeats 4000000 in
theorem okw_NoNumber {k : Nat} {f : Addr} {fd : FuncData} (F : Fun K "_law_word" "_law_word" s_Lword f fd) (z_isinstance : mg "isinstance" = none) (z_len : mg "len" = none) (z_ValueError : mg "ValueError" = none) {C_NoNumber : Addr} {C_Apart : Addr} {C_NoEnd : Addr} {C_NoName : Addr} {C_NoOrder : Addr} {C_NoPaper : Addr} {C_NoPlace : Addr} {C_NoRing : Addr} {C_NoRow : Addr} {C_NoTable : Addr} {C_NoText : Addr} {C_NoTie : Addr} {C_NoWeb : Addr} {C_TooGreat : Addr} {C_TooMany : Addr} (gx_Apart : mg "Apart" = some (.ref C_Apart)) (xc_NoNumber : ExcC K C_NoNumber) (kk_NoNumber_Apart : PySem.W.kitOne K (.ref C_NoNumber) (.ref C_Apart) = some false) (gx_NoEnd : mg "NoEnd" = some (.ref C_NoEnd)) (kk_NoNumber_NoEnd : PySem.W.kitOne K (.ref C_NoNumber) (.ref C_NoEnd) = some false) (gx_NoName : mg "NoName" = some (.ref C_NoName)) (kk_NoNumber_NoName : PySem.W.kitOne K (.ref C_NoNumber) (.ref C_NoName) = some false) (gx_NoNumber : mg "NoNumber" = some (.ref C_NoNumber)) (kk_NoNumber_NoNumber : PySem.W.kitOne K (.ref C_NoNumber) (.ref C_NoNumber) = some true) (gx_NoOrder : mg "NoOrder" = some (.ref C_NoOrder)) (kk_NoNumber_NoOrder : PySem.W.kitOne K (.ref C_NoNumber) (.ref C_NoOrder) = some false) (gx_NoPaper : mg "NoPaper" = some (.ref C_NoPaper)) (kk_NoNumber_NoPaper : PySem.W.kitOne K (.ref C_NoNumber) (.ref C_NoPaper) = some false) (gx_NoPlace : mg "NoPlace" = some (.ref C_NoPlace)) (kk_NoNumber_NoPlace : PySem.W.kitOne K (.ref C_NoNumber) (.ref C_NoPlace) = some false) (gx_NoRing : mg "NoRing" = some (.ref C_NoRing)) (kk_NoNumber_NoRing : PySem.W.kitOne K (.ref C_NoNumber) (.ref C_NoRing) = some false) (gx_NoRow : mg "NoRow" = some (.ref C_NoRow)) (kk_NoNumber_NoRow : PySem.W.kitOne K (.ref C_NoNumber) (.ref C_NoRow) = some false) (gx_NoTable : mg "NoTable" = some (.ref C_NoTable)) (kk_NoNumber_NoTable : PySem.W.kitOne K (.ref C_NoNumber) (.ref C_NoTable) = some false) (gx_NoText : mg "NoText" = some (.ref C_NoText)) (kk_NoNumber_NoText : PySem.W.kitOne K (.ref C_NoNumber) (.ref C_NoText) = some false) (gx_NoTie : mg "NoTie" = some (.ref C_NoTie)) (kk_NoNumber_NoTie : PySem.W.kitOne K (.ref C_NoNumber) (.ref C_NoTie) = some false) (gx_NoWeb : mg "NoWeb" = some (.ref C_NoWeb)) (kk_NoNumber_NoWeb : PySem.W.kitOne K (.ref C_NoNumber) (.ref C_NoWeb) = some false) (gx_TooGreat : mg "TooGreat" = some (.ref C_TooGreat)) (kk_NoNumber_TooGreat : PySem.W.kitOne K (.ref C_NoNumber) (.ref C_TooGreat) = some false) (gx_TooMany : mg "TooMany" = some (.ref C_TooMany)) (kk_NoNumber_TooMany : PySem.W.kitOne K (.ref C_NoNumber) (.ref C_TooMany) = some false) (kk_NoNumber_ValueError : PySem.W.kitOne K (.ref C_NoNumber) (.type "ValueError") = some true) :
    FnW P w K mg base (k + 1) f fd "_law_e" C_NoNumber sem_WNoNumber_1ef6 :=
  fnw_of (N := ["_law_e", "_law_some", "_law_found", "_law_word_here", "_law_one"]) (body := b_WNoNumber_1ef6) F sc_Lword (by decide) fun cdv A outer s H E p hot hr hz hf =>
    (show PSs _ _ (tX _ _ 0 p.1 b_WNoNumber_1ef6) from (dxx_set (j := 1) sc_Lword.nd rfl (by first | exact Or.inl rfl | exact Or.inr rfl) (dex_lst (dax_cons (dex_tup (dax_cons (dex_of de_str) (dax_cons (dex_isiY (List.mem_singleton.mpr rfl) xc_NoNumber hz hf (by rfl) z_isinstance (pv 0) (pe_glob (v := .ref C_Apart) (by rfl) gx_Apart rfl) (.own _) kk_NoNumber_Apart) dax_nil))) (dax_cons (dex_tup (dax_cons (dex_of de_str) (dax_cons (dex_isiY (List.mem_singleton.mpr rfl) xc_NoNumber hz hf (by rfl) z_isinstance (pv 0) (pe_glob (v := .ref C_NoEnd) (by rfl) gx_NoEnd rfl) (.own _) kk_NoNumber_NoEnd) dax_nil))) (dax_cons (dex_tup (dax_cons (dex_of de_str) (dax_cons (dex_isiY (List.mem_singleton.mpr rfl) xc_NoNumber hz hf (by rfl) z_isinstance (pv 0) (pe_glob (v := .ref C_NoName) (by rfl) gx_NoName rfl) (.own _) kk_NoNumber_NoName) dax_nil))) dax_nil)))) (dxx_set (j := 1) sc_Lword.nd rfl (by first | exact Or.inl rfl | exact Or.inr rfl) (dex_bin od_add (do_var (pv 1)) (dex_lst (dax_cons (dex_tup (dax_cons (dex_of de_str) (dax_cons (dex_isiY (List.mem_singleton.mpr rfl) xc_NoNumber hz hf (by rfl) z_isinstance (pv 0) (pe_glob (v := .ref C_NoNumber) (by rfl) gx_NoNumber rfl) (.own _) kk_NoNumber_NoNumber) dax_nil))) (dax_cons (dex_tup (dax_cons (dex_of de_str) (dax_cons (dex_isiY (List.mem_singleton.mpr rfl) xc_NoNumber hz hf (by rfl) z_isinstance (pv 0) (pe_glob (v := .ref C_NoOrder) (by rfl) gx_NoOrder rfl) (.own _) kk_NoNumber_NoOrder) dax_nil))) dax_nil)))) (dxx_set (j := 1) sc_Lword.nd rfl (by first | exact Or.inl rfl | exact Or.inr rfl) (dex_bin od_add (do_var (pv 1)) (dex_lst (dax_cons (dex_tup (dax_cons (dex_of de_str) (dax_cons (dex_isiY (List.mem_singleton.mpr rfl) xc_NoNumber hz hf (by rfl) z_isinstance (pv 0) (pe_glob (v := .ref C_NoPaper) (by rfl) gx_NoPaper rfl) (.own _) kk_NoNumber_NoPaper) dax_nil))) (dax_cons (dex_tup (dax_cons (dex_of de_str) (dax_cons (dex_isiY (List.mem_singleton.mpr rfl) xc_NoNumber hz hf (by rfl) z_isinstance (pv 0) (pe_glob (v := .ref C_NoPlace) (by rfl) gx_NoPlace rfl) (.own _) kk_NoNumber_NoPlace) dax_nil))) dax_nil)))) (dxx_set (j := 1) sc_Lword.nd rfl (by first | exact Or.inl rfl | exact Or.inr rfl) (dex_bin od_add (do_var (pv 1)) (dex_lst (dax_cons (dex_tup (dax_cons (dex_of de_str) (dax_cons (dex_isiY (List.mem_singleton.mpr rfl) xc_NoNumber hz hf (by rfl) z_isinstance (pv 0) (pe_glob (v := .ref C_NoRing) (by rfl) gx_NoRing rfl) (.own _) kk_NoNumber_NoRing) dax_nil))) (dax_cons (dex_tup (dax_cons (dex_of de_str) (dax_cons (dex_isiY (List.mem_singleton.mpr rfl) xc_NoNumber hz hf (by rfl) z_isinstance (pv 0) (pe_glob (v := .ref C_NoRow) (by rfl) gx_NoRow rfl) (.own _) kk_NoNumber_NoRow) dax_nil))) (dax_cons (dex_tup (dax_cons (dex_of de_str) (dax_cons (dex_isiY (List.mem_singleton.mpr rfl) xc_NoNumber hz hf (by rfl) z_isinstance (pv 0) (pe_glob (v := .ref C_NoTable) (by rfl) gx_NoTable rfl) (.own _) kk_NoNumber_NoTable) dax_nil))) dax_nil))))) (dxx_set (j := 1) sc_Lword.nd rfl (by first | exact Or.inl rfl | exact Or.inr rfl) (dex_bin od_add (do_var (pv 1)) (dex_lst (dax_cons (dex_tup (dax_cons (dex_of de_str) (dax_cons (dex_isiY (List.mem_singleton.mpr rfl) xc_NoNumber hz hf (by rfl) z_isinstance (pv 0) (pe_glob (v := .ref C_NoText) (by rfl) gx_NoText rfl) (.own _) kk_NoNumber_NoText) dax_nil))) (dax_cons (dex_tup (dax_cons (dex_of de_str) (dax_cons (dex_isiY (List.mem_singleton.mpr rfl) xc_NoNumber hz hf (by rfl) z_isinstance (pv 0) (pe_glob (v := .ref C_NoTie) (by rfl) gx_NoTie rfl) (.own _) kk_NoNumber_NoTie) dax_nil))) (dax_cons (dex_tup (dax_cons (dex_of de_str) (dax_cons (dex_isiY (List.mem_singleton.mpr rfl) xc_NoNumber hz hf (by rfl) z_isinstance (pv 0) (pe_glob (v := .ref C_NoWeb) (by rfl) gx_NoWeb rfl) (.own _) kk_NoNumber_NoWeb) dax_nil))) dax_nil))))) (dxx_set (j := 1) sc_Lword.nd rfl (by first | exact Or.inl rfl | exact Or.inr rfl) (dex_bin od_add (do_var (pv 1)) (dex_lst (dax_cons (dex_tup (dax_cons (dex_of de_str) (dax_cons (dex_isiY (List.mem_singleton.mpr rfl) xc_NoNumber hz hf (by rfl) z_isinstance (pv 0) (pe_glob (v := .ref C_TooGreat) (by rfl) gx_TooGreat rfl) (.own _) kk_NoNumber_TooGreat) dax_nil))) (dax_cons (dex_tup (dax_cons (dex_of de_str) (dax_cons (dex_isiY (List.mem_singleton.mpr rfl) xc_NoNumber hz hf (by rfl) z_isinstance (pv 0) (pe_glob (v := .ref C_TooMany) (by rfl) gx_TooMany rfl) (.own _) kk_NoNumber_TooMany) dax_nil))) dax_nil)))) (dxx_setLcK (lo := false) (i := 0) (j := 2) (own := [("_law_word_here", 3), ("_law_one", 4)]) (hot_word hot) sc_Lword.nd rfl rfl (sw_true rfl rfl rfl (by decide +kernel)) (dik_list (de_var (pv 1))) (blkOk_by (own := [("_law_word_here", 3), ("_law_one", 4)]) (by first | rfl | decide +kernel)) (fun _ _ _ _ _ hin => (dg_tupH hin (dgs_cons (dg_name sc_Lword.nd rfl (by first | exact Or.inl rfl | exact Or.inr rfl)) (dgs_cons (dg_name sc_Lword.nd rfl (by first | exact Or.inl rfl | exact Or.inr rfl)) dgs_nil)))) (fun _ _ _ _ _ => (dts_one (db_val (de_var (pv 4))))) (fun _ _ _ _ _ => (de_var (pv 3))) (by decide) (dxx_ifRet (dbx_w (dwx_and (dbx_of (db_cmp (od_eq (units_H hr)) (do_of (de_cb cd_len (by rfl) z_len (by decide +kernel) (da_cons (do_var (pv 2)) da_nil))) (do_of de_int) (nomark _))) (dwx_and1 (dbx_val (dex_isiY (List.mem_singleton.mpr rfl) xc_NoNumber hz hf (by rfl) z_isinstance (pv 0) (pe_bltn (v := .ty "ValueError") (by rfl) z_ValueError (by rfl) rfl) (.ty _) kk_NoNumber_ValueError))))) (de_ix ixd_get (do_var (pv 2)) (do_of de_int) (fun _ _ => rfl)) (dxx_of (dss_one (ds_ret de_str))))))))))))
theorem sw_NoNumber : sem_WNoNumber_1ef6 [] = some (.ok (.val (.str (Str.ofString "number"))), []) := by rfl
theorem sc_Ltold : FnScope ["_law_asked", "_law_found", "_law_e"] ["_law_asked"] (defScope s_Ltold) := ⟨rfl, rfl, rfl, by decide +kernel, rfl, by decide +kernel, by decide +kernel⟩
theorem sc_law : FnScope ["_law_script", "_law_pen_here", "_law_web_here", "_law_many", "_law_far", "_law_some", "_law_thing", "#tab"] ["_law_script"] (defScope s_law) := ⟨rfl, rfl, rfl, by decide +kernel, rfl, by decide +kernel, by decide +kernel⟩
set_option maxHeartbeats 4000000 in
theorem ok_law {k : Nat} {f c Pt : Addr} {oc kV dc pm ct : Value} {od an : Option Addr} {sl : Array (Option Value)} (lk : K.lookup f = some ⟨oc, od, .func (PySem.W.fnOf "law" "law" (defArgs s_law) (defBody s_law) (defScope s_law) .none kV dc pm an (.ref c) ct), sl⟩) (hcd : PySem.W.codeIn K (.ref c) "law" = true) (TBt : LamX.TabB base mg c Pt) {f_Lpen : Addr} {fd_Lpen : FuncData} (G_Lpen : FnOk P w K mg base (L2N.CX P w) k f_Lpen fd_Lpen ["_law_script"] (spD K mg sem_Lpen_3d2f 1)) (g_Lpen : mg "_law_pen" = some (.ref f_Lpen)) (k_Lpen : PySem.W.keepIn K (.ref f_Lpen) = true) (B_Lpen : Binds K fd_Lpen ["_law_script"] []) {f_Lweb : Addr} {fd_Lweb : FuncData} (G_Lweb : FnOk P w K mg base (L2N.CX P w) k f_Lweb fd_Lweb ["_law_pen_here", "_law_places", "_law_ties"] (spD K mg sem_Lweb_0350 3)) (g_Lweb : mg "_law_web" = some (.ref f_Lweb)) (k_Lweb : PySem.W.keepIn K (.ref f_Lweb) = true) (B_Lweb : Binds K fd_Lweb ["_law_pen_here", "_law_places", "_law_ties"] []) {f_orders_many : Addr} {fd_orders_many : FuncData} (G_orders_many : FnOk P w K mg base (L2N.CX P w) k f_orders_many fd_orders_many ["web"] (spD K mg sem_orders_many_0e37 1)) (g_orders_many : mg "orders_many" = some (.ref f_orders_many)) (k_orders_many : PySem.W.keepIn K (.ref f_orders_many) = true) (B_orders_many : Binds K fd_orders_many ["web"] []) {f_Ldraw : Addr} {fd_Ldraw : FuncData} (G_Ldraw : FnOk P w K mg base (L2N.CX P w) k f_Ldraw fd_Ldraw ["_law_pen_here", "_law_many"] (spD K mg sem_Ldraw_de5b 2)) (g_Ldraw : mg "_law_draw" = some (.ref f_Ldraw)) (k_Ldraw : PySem.W.keepIn K (.ref f_Ldraw) = true) (B_Ldraw : Binds K fd_Ldraw ["_law_pen_here", "_law_many"] []) {f_order_at : Addr} {fd_order_at : FuncData} (G_order_at : FnOk P w K mg base (L2N.CX P w) k f_order_at fd_order_at ["web", "number"] (spD K mg sem_order_at_e71fR 2)) (g_order_at : mg "order_at" = some (.ref f_order_at)) (k_order_at : PySem.W.keepIn K (.ref f_order_at) = true) (B_order_at : Binds K fd_order_at ["web", "number"] []) {f_number_of : Addr} {fd_number_of : FuncData} (G_number_of : FnOk P w K mg base (L2N.CX P w) k f_number_of fd_number_of ["web", "order"] (spD K mg sem_number_of_1429 2)) (g_number_of : mg "number_of" = some (.ref f_number_of)) (k_number_of : PySem.W.keepIn K (.ref f_number_of) = true) (B_number_of : Binds K fd_number_of ["web", "order"] []) (z_str : mg "str" = none) {C_NoNumber : Addr} {C_FloorError : Addr} (gx_NoNumber : mg "NoNumber" = some (.ref C_NoNumber)) (xe_NoNumber_FloorError : PySem.W.exmOne K (.ref C_NoNumber) (.ref C_FloorError) = some true) (gx_FloorError : mg "FloorError" = some (.ref C_FloorError)) {f_Ltold : Addr} {od_Ltold an_Ltold : Option Addr} {sl_Ltold : Array (Option Value)} {oc_Ltold kV_Ltold dc_Ltold pm_Ltold cd_Ltold ct_Ltold : Value} (l_Ltold : K.lookup f_Ltold = some ⟨oc_Ltold, od_Ltold, .func (PySem.W.fnOf "_law_told" "_law_told" (defArgs s_Ltold) (defBody s_Ltold) (defScope s_Ltold) .none kV_Ltold dc_Ltold pm_Ltold an_Ltold cd_Ltold ct_Ltold), sl_Ltold⟩) (c_Ltold : PySem.W.codeIn K cd_Ltold "_law_told" = true) (g_Ltold : mg "_law_told" = some (.ref f_Ltold)) (k_Ltold : PySem.W.keepIn K (.ref f_Ltold) = true) (B_Ltold : Binds K (PySem.W.fnOf "_law_told" "_law_told" (defArgs s_Ltold) (defBody s_Ltold) (defScope s_Ltold) .none kV_Ltold dc_Ltold pm_Ltold an_Ltold cd_Ltold ct_Ltold) ["_law_asked"] []) {f_Lword : Addr} {fd_Lword : FuncData} (g_Lword : mg "_law_word" = some (.ref f_Lword)) (k_Lword : PySem.W.keepIn K (.ref f_Lword) = true) (B_Lword : Binds K fd_Lword ["_law_e"] []) (W_NoNumber : FnW P w K mg base k f_Lword fd_Lword "_law_e" C_NoNumber sem_WNoNumber_1ef6) :
    FnOk P w K mg base (L2N.CX P w) (k + 3) f (PySem.W.fnOf "law" "law" (defArgs s_law) (defBody s_law) (defScope s_law) .none kV dc pm an (.ref c) ct) ["_law_script"] (spT K mg (b_law_1a4dR Pt) ["_law_script", "_law_pen_here", "_law_web_here", "_law_many", "_law_far", "_law_some", "_law_thing", "#tab"] 7 Pt) :=
  defT_ok (N := ["_law_script", "_law_pen_here", "_law_web_here", "_law_many", "_law_far", "_law_some", "_law_thing", "#tab"]) (i := 7) (z := "#tab") lk hcd sc_law rfl (by unfold Vis; decide +kernel) fun A outer s H E hr tk =>
    (dss_cons (ds_set (i := 1) sc_law.nd rfl (by first | exact Or.inl rfl | exact Or.inr rfl) (de_call tk G_Lpen (hr.mono (Nat.le_add_right _ 2)) (by rfl) g_Lpen k_Lpen B_Lpen rfl (da_cons (do_var (pv 0)) da_nil)))
    (dss_cons (ds_set (i := 2) sc_law.nd rfl (by first | exact Or.inl rfl | exact Or.inr rfl) (de_call tk G_Lweb (hr.mono (Nat.le_add_right _ 2)) (by rfl) g_Lweb k_Lweb B_Lweb rfl (da_cons (do_var (pv 1)) (da_cons (do_of de_int) (da_cons (do_of de_int) da_nil)))))
    (dss_cons (ds_set (i := 3) sc_law.nd rfl (by first | exact Or.inl rfl | exact Or.inr rfl) (de_call tk G_orders_many (hr.mono (Nat.le_add_right _ 2)) (by rfl) g_orders_many k_orders_many B_orders_many rfl (da_cons (do_var (pv 2)) da_nil)))
    (dss_cons (ds_set (i := 4) sc_law.nd rfl (by first | exact Or.inl rfl | exact Or.inr rfl) (de_call tk G_Ldraw (hr.mono (Nat.le_add_right _ 2)) (by rfl) g_Ldraw k_Ldraw B_Ldraw rfl (da_cons (do_var (pv 1)) (da_cons (do_of (de_bin od_pow (do_of de_int) (do_of de_int))) da_nil))))
    (dss_cons (ds_set (i := 5) sc_law.nd rfl (by first | exact Or.inl rfl | exact Or.inr rfl) (de_lst (da_cons (do_of (de_var (pv 3))) (da_cons (do_of (de_bin od_add (do_var (pv 3)) (do_of de_int))) (da_cons (do_of (de_bin od_add (do_var (pv 3)) (do_var (pv 4)))) (da_cons (do_of (de_bin od_sub (do_of de_int) (do_of de_int))) (da_cons (do_of (de_bin od_sub (do_of (de_bin od_sub (do_of de_int) (do_of de_int))) (do_var (pv 4)))) (da_cons (do_of (de_bin od_sub (do_of de_int) (do_var (pv 3)))) (da_cons (do_of de_bl) (da_cons (do_of de_bl) (da_cons (do_of de_non) (da_cons (do_of de_str) (da_cons (do_of de_str) (da_cons (do_of (de_lst (da_cons (do_of de_int) da_nil))) (da_cons (do_of (de_tup (da_cons (do_of de_int) da_nil))) (da_cons (do_of de_e0) (da_cons (do_of (de_lst da_nil)) (da_cons (do_of (de_tup da_nil)) da_nil))))))))))))))))))
    (dss_cons (ds_for (passes_of rfl) rfl (di_seq (lo := false) (de_bin od_add (do_var (pv 5)) (do_of (de_lst (da_cons (do_of (de_ct cd_strI (by rfl) z_str (by decide +kernel) (da_cons (do_of (de_bin od_sub (do_var (pv 3)) (do_of de_int))) da_nil))) (da_cons (do_of (de_lst (da_cons (do_of (de_bin od_sub (do_var (pv 3)) (do_of de_int))) da_nil))) (da_cons (do_of (de_dii (do_of de_int) de_int)) da_nil))))))) (dg_name sc_law.nd rfl (by first | exact Or.inl rfl | exact Or.inr rfl)) (dss_one (ds_if (db_cmp (od_ne hr.units) (do_of (de_told (i := 7) (by rfl) g_Ltold k_Ltold l_Ltold c_Ltold B_Ltold sc_Ltold rfl (.inl rfl) (by exact told_gives (L := ["NoNumber"]) (word := (fun _ => Str.ofString "number")) (semw := (fun _ => sem_WNoNumber_1ef6)) (y := "_law_e") sc_Ltold.nd rfl rfl rfl rfl (by rfl) (by rfl) (by rfl) gx_FloorError (by rfl) g_Lword k_Lword B_Lword hr rfl (by intro n hn C hC; simp only [List.mem_cons, List.not_mem_nil, or_false] at hn; rcases hn with rfl; cases gx_NoNumber.symm.trans hC; exact xe_NoNumber_FloorError) (by intro n hn C hC; simp only [List.mem_cons, List.not_mem_nil, or_false] at hn; rcases hn with rfl; cases gx_NoNumber.symm.trans hC; exact ⟨W_NoNumber, sw_NoNumber⟩)) TBt rfl hr (LamX.lamS_by (by rfl)) rfl (fun _ _ _ _ _ => rfl) (fun A outer s H E f c' hr tk => (de_call tk G_order_at hr (by rfl) g_order_at k_order_at B_order_at rfl (da_cons (do_var (pv 2)) (da_cons (do_var (pv 6)) da_nil)))))) (do_of (de_tup (da_cons (do_of de_str) (da_cons (do_of de_str) da_nil)))) (nomark _)) (dss_one (ds_ret de_bl)) dss_nil)))
    (dss_one (ds_ret (de_cmp (od_eq hr.units) (do_of (de_call tk G_number_of (hr.mono (Nat.le_add_right _ 2)) (by rfl) g_number_of k_number_of B_number_of rfl (da_cons (do_var (pv 2)) (da_cons (do_of (de_call tk G_order_at (hr.mono (Nat.le_add_right _ 2)) (by rfl) g_order_at k_order_at B_order_at rfl (da_cons (do_var (pv 2)) (da_cons (do_of (de_bin od_sub (do_var (pv 3)) (do_of de_int))) da_nil)))) da_nil)))) (do_of (de_bin od_sub (do_var (pv 3)) (do_of de_int))) (nomark _))))))))))
set_option maxHeartbeats 4000000 in
theorem all_mk {h : Heap} {fa : Addr} (X : K.In h) (G : h.Ns mainGlobals mg) (hfa : mg "law" = some (.ref fa))
    {f_is_whole : Addr} {od_is_whole an_is_whole : Option Addr} {sl_is_whole : Array (Option Value)} {oc_is_whole kV_is_whole dc_is_whole pm_is_whole cd_is_whole ct_is_whole : Value} {f_place_of : Addr} {od_place_of an_place_of : Option Addr} {sl_place_of : Array (Option Value)} {oc_place_of kV_place_of dc_place_of pm_place_of cd_place_of ct_place_of : Value} {f_ends_of : Addr} {od_ends_of an_ends_of : Option Addr} {sl_ends_of : Array (Option Value)} {oc_ends_of kV_ends_of dc_ends_of pm_ends_of cd_ends_of ct_ends_of : Value} {f_ends_at : Addr} {od_ends_at an_ends_at : Option Addr} {sl_ends_at : Array (Option Value)} {oc_ends_at kV_ends_at dc_ends_at pm_ends_at cd_ends_at ct_ends_at : Value} {f_rows_many : Addr} {od_rows_many an_rows_many : Option Addr} {sl_rows_many : Array (Option Value)} {oc_rows_many kV_rows_many dc_rows_many pm_rows_many cd_rows_many ct_rows_many : Value} {f_orders_many : Addr} {od_orders_many an_orders_many : Option Addr} {sl_orders_many : Array (Option Value)} {oc_orders_many kV_orders_many dc_orders_many pm_orders_many cd_orders_many ct_orders_many : Value} {f_row_at : Addr} {od_row_at an_row_at : Option Addr} {sl_row_at : Array (Option Value)} {oc_row_at kV_row_at dc_row_at pm_row_at cd_row_at ct_row_at : Value} {f_order_at : Addr} {od_order_at an_order_at : Option Addr} {sl_order_at : Array (Option Value)} {oc_order_at kV_order_at dc_order_at pm_order_at cd_order_at ct_order_at : Value} {f_row_number : Addr} {od_row_number an_row_number : Option Addr} {sl_row_number : Array (Option Value)} {oc_row_number kV_row_number dc_row_number pm_row_number cd_row_number ct_row_number : Value} {f_number_of : Addr} {od_number_of an_number_of : Option Addr} {sl_number_of : Array (Option Value)} {oc_number_of kV_number_of dc_number_of pm_number_of cd_number_of ct_number_of : Value} {f_Lpen : Addr} {od_Lpen an_Lpen : Option Addr} {sl_Lpen : Array (Option Value)} {oc_Lpen kV_Lpen dc_Lpen pm_Lpen cd_Lpen ct_Lpen : Value} {f_Ldraw : Addr} {od_Ldraw an_Ldraw : Option Addr} {sl_Ldraw : Array (Option Value)} {oc_Ldraw kV_Ldraw dc_Ldraw pm_Ldraw cd_Ldraw ct_Ldraw : Value} {f_Lweb : Addr} {od_Lweb an_Lweb : Option Addr} {sl_Lweb : Array (Option Value)} {oc_Lweb kV_Lweb dc_Lweb pm_Lweb cd_Lweb ct_Lweb : Value} {f_Lword : Addr} {od_Lword an_Lword : Option Addr} {sl_Lword : Array (Option Value)} {oc_Lword kV_Lword dc_Lword pm_Lword cd_Lword ct_Lword : Value} {f_Ltold : Addr} {od_Ltold an_Ltold : Option Addr} {sl_Ltold : Array (Option Value)} {oc_Ltold kV_Ltold dc_Ltold pm_Ltold cd_Ltold ct_Ltold : Value} {f_law : Addr} {od_law an_law : Option Addr} {sl_law : Array (Option Value)} {oc_law kV_law dc_law pm_law cd_law ct_law : Value} {C_NoNumber : Addr} {C_Apart : Addr} {C_NoEnd : Addr} {C_NoName : Addr} {C_NoOrder : Addr} {C_NoPaper : Addr} {C_NoPlace : Addr} {C_NoRing : Addr} {C_NoRow : Addr} {C_NoTable : Addr} {C_NoText : Addr} {C_NoTie : Addr} {C_NoWeb : Addr} {C_TooGreat : Addr} {C_TooMany : Addr} {C_FloorError : Addr} {cc_law Pt_law : Addr} {ec_law : Value} {dd_law : Option Addr} {vc_law : Array Value} {sc2_law : Array (Option Value)}
    (a_is_whole : PySem.W.nsIn K mainGlobals "is_whole" = some (some (.ref f_is_whole))) (l_is_whole : K.lookup f_is_whole = some ⟨oc_is_whole, od_is_whole, .func (PySem.W.fnOf "is_whole" "is_whole" (defArgs s_is_whole) (defBody s_is_whole) (defScope s_is_whole) .none kV_is_whole dc_is_whole pm_is_whole an_is_whole cd_is_whole ct_is_whole), sl_is_whole⟩) (c_is_whole : PySem.W.codeIn K cd_is_whole "is_whole" = true) (k_is_whole : PySem.W.keepIn K (.ref f_is_whole) = true)
    (a_place_of : PySem.W.nsIn K mainGlobals "place_of" = some (some (.ref f_place_of))) (l_place_of : K.lookup f_place_of = some ⟨oc_place_of, od_place_of, .func (PySem.W.fnOf "place_of" "place_of" (defArgs s_place_of) (defBody s_place_of) (defScope s_place_of) .none kV_place_of dc_place_of pm_place_of an_place_of cd_place_of ct_place_of), sl_place_of⟩) (c_place_of : PySem.W.codeIn K cd_place_of "place_of" = true) (k_place_of : PySem.W.keepIn K (.ref f_place_of) = true)
    (a_ends_of : PySem.W.nsIn K mainGlobals "ends_of" = some (some (.ref f_ends_of))) (l_ends_of : K.lookup f_ends_of = some ⟨oc_ends_of, od_ends_of, .func (PySem.W.fnOf "ends_of" "ends_of" (defArgs s_ends_of) (defBody s_ends_of) (defScope s_ends_of) .none kV_ends_of dc_ends_of pm_ends_of an_ends_of cd_ends_of ct_ends_of), sl_ends_of⟩) (c_ends_of : PySem.W.codeIn K cd_ends_of "ends_of" = true) (k_ends_of : PySem.W.keepIn K (.ref f_ends_of) = true)
    (a_ends_at : PySem.W.nsIn K mainGlobals "ends_at" = some (some (.ref f_ends_at))) (l_ends_at : K.lookup f_ends_at = some ⟨oc_ends_at, od_ends_at, .func (PySem.W.fnOf "ends_at" "ends_at" (defArgs s_ends_at) (defBody s_ends_at) (defScope s_ends_at) .none kV_ends_at dc_ends_at pm_ends_at an_ends_at cd_ends_at ct_ends_at), sl_ends_at⟩) (c_ends_at : PySem.W.codeIn K cd_ends_at "ends_at" = true) (k_ends_at : PySem.W.keepIn K (.ref f_ends_at) = true)
    (a_rows_many : PySem.W.nsIn K mainGlobals "rows_many" = some (some (.ref f_rows_many))) (l_rows_many : K.lookup f_rows_many = some ⟨oc_rows_many, od_rows_many, .func (PySem.W.fnOf "rows_many" "rows_many" (defArgs s_rows_many) (defBody s_rows_many) (defScope s_rows_many) .none kV_rows_many dc_rows_many pm_rows_many an_rows_many cd_rows_many ct_rows_many), sl_rows_many⟩) (c_rows_many : PySem.W.codeIn K cd_rows_many "rows_many" = true) (k_rows_many : PySem.W.keepIn K (.ref f_rows_many) = true)
    (a_orders_many : PySem.W.nsIn K mainGlobals "orders_many" = some (some (.ref f_orders_many))) (l_orders_many : K.lookup f_orders_many = some ⟨oc_orders_many, od_orders_many, .func (PySem.W.fnOf "orders_many" "orders_many" (defArgs s_orders_many) (defBody s_orders_many) (defScope s_orders_many) .none kV_orders_many dc_orders_many pm_orders_many an_orders_many cd_orders_many ct_orders_many), sl_orders_many⟩) (c_orders_many : PySem.W.codeIn K cd_orders_many "orders_many" = true) (k_orders_many : PySem.W.keepIn K (.ref f_orders_many) = true)
    (a_row_at : PySem.W.nsIn K mainGlobals "row_at" = some (some (.ref f_row_at))) (l_row_at : K.lookup f_row_at = some ⟨oc_row_at, od_row_at, .func (PySem.W.fnOf "row_at" "row_at" (defArgs s_row_at) (defBody s_row_at) (defScope s_row_at) .none kV_row_at dc_row_at pm_row_at an_row_at cd_row_at ct_row_at), sl_row_at⟩) (c_row_at : PySem.W.codeIn K cd_row_at "row_at" = true) (k_row_at : PySem.W.keepIn K (.ref f_row_at) = true)
    (a_order_at : PySem.W.nsIn K mainGlobals "order_at" = some (some (.ref f_order_at))) (l_order_at : K.lookup f_order_at = some ⟨oc_order_at, od_order_at, .func (PySem.W.fnOf "order_at" "order_at" (defArgs s_order_at) (defBody s_order_at) (defScope s_order_at) .none kV_order_at dc_order_at pm_order_at an_order_at cd_order_at ct_order_at), sl_order_at⟩) (c_order_at : PySem.W.codeIn K cd_order_at "order_at" = true) (k_order_at : PySem.W.keepIn K (.ref f_order_at) = true)
    (a_row_number : PySem.W.nsIn K mainGlobals "row_number" = some (some (.ref f_row_number))) (l_row_number : K.lookup f_row_number = some ⟨oc_row_number, od_row_number, .func (PySem.W.fnOf "row_number" "row_number" (defArgs s_row_number) (defBody s_row_number) (defScope s_row_number) .none kV_row_number dc_row_number pm_row_number an_row_number cd_row_number ct_row_number), sl_row_number⟩) (c_row_number : PySem.W.codeIn K cd_row_number "row_number" = true) (k_row_number : PySem.W.keepIn K (.ref f_row_number) = true)
    (a_number_of : PySem.W.nsIn K mainGlobals "number_of" = some (some (.ref f_number_of))) (l_number_of : K.lookup f_number_of = some ⟨oc_number_of, od_number_of, .func (PySem.W.fnOf "number_of" "number_of" (defArgs s_number_of) (defBody s_number_of) (defScope s_number_of) .none kV_number_of dc_number_of pm_number_of an_number_of cd_number_of ct_number_of), sl_number_of⟩) (c_number_of : PySem.W.codeIn K cd_number_of "number_of" = true) (k_number_of : PySem.W.keepIn K (.ref f_number_of) = true)
    (a_Lpen : PySem.W.nsIn K mainGlobals "_law_pen" = some (some (.ref f_Lpen))) (l_Lpen : K.lookup f_Lpen = some ⟨oc_Lpen, od_Lpen, .func (PySem.W.fnOf "_law_pen" "_law_pen" (defArgs s_Lpen) (defBody s_Lpen) (defScope s_Lpen) .none kV_Lpen dc_Lpen pm_Lpen an_Lpen cd_Lpen ct_Lpen), sl_Lpen⟩) (c_Lpen : PySem.W.codeIn K cd_Lpen "_law_pen" = true) (k_Lpen : PySem.W.keepIn K (.ref f_Lpen) = true)
    (a_Ldraw : PySem.W.nsIn K mainGlobals "_law_draw" = some (some (.ref f_Ldraw))) (l_Ldraw : K.lookup f_Ldraw = some ⟨oc_Ldraw, od_Ldraw, .func (PySem.W.fnOf "_law_draw" "_law_draw" (defArgs s_Ldraw) (defBody s_Ldraw) (defScope s_Ldraw) .none kV_Ldraw dc_Ldraw pm_Ldraw an_Ldraw cd_Ldraw ct_Ldraw), sl_Ldraw⟩) (c_Ldraw : PySem.W.codeIn K cd_Ldraw "_law_draw" = true) (k_Ldraw : PySem.W.keepIn K (.ref f_Ldraw) = true)
    (a_Lweb : PySem.W.nsIn K mainGlobals "_law_web" = some (some (.ref f_Lweb))) (l_Lweb : K.lookup f_Lweb = some ⟨oc_Lweb, od_Lweb, .func (PySem.W.fnOf "_law_web" "_law_web" (defArgs s_Lweb) (defBody s_Lweb) (defScope s_Lweb) .none kV_Lweb dc_Lweb pm_Lweb an_Lweb cd_Lweb ct_Lweb), sl_Lweb⟩) (c_Lweb : PySem.W.codeIn K cd_Lweb "_law_web" = true) (k_Lweb : PySem.W.keepIn K (.ref f_Lweb) = true)
    (a_Lword : PySem.W.nsIn K mainGlobals "_law_word" = some (some (.ref f_Lword))) (l_Lword : K.lookup f_Lword = some ⟨oc_Lword, od_Lword, .func (PySem.W.fnOf "_law_word" "_law_word" (defArgs s_Lword) (defBody s_Lword) (defScope s_Lword) .none kV_Lword dc_Lword pm_Lword an_Lword cd_Lword ct_Lword), sl_Lword⟩) (c_Lword : PySem.W.codeIn K cd_Lword "_law_word" = true) (k_Lword : PySem.W.keepIn K (.ref f_Lword) = true)
    (a_Ltold : PySem.W.nsIn K mainGlobals "_law_told" = some (some (.ref f_Ltold))) (l_Ltold : K.lookup f_Ltold = some ⟨oc_Ltold, od_Ltold, .func (PySem.W.fnOf "_law_told" "_law_told" (defArgs s_Ltold) (defBody s_Ltold) (defScope s_Ltold) .none kV_Ltold dc_Ltold pm_Ltold an_Ltold cd_Ltold ct_Ltold), sl_Ltold⟩) (c_Ltold : PySem.W.codeIn K cd_Ltold "_law_told" = true) (k_Ltold : PySem.W.keepIn K (.ref f_Ltold) = true)
    (a_law : PySem.W.nsIn K mainGlobals "law" = some (some (.ref f_law))) (l_law : K.lookup f_law = some ⟨oc_law, od_law, .func (PySem.W.fnOf "law" "law" (defArgs s_law) (defBody s_law) (defScope s_law) .none kV_law dc_law pm_law an_law cd_law ct_law), sl_law⟩) (c_law : PySem.W.codeIn K cd_law "law" = true) (k_law : PySem.W.keepIn K (.ref f_law) = true) (z_isinstance : PySem.W.nsIn K mainGlobals "isinstance" = some none) (z_int : PySem.W.nsIn K mainGlobals "int" = some none) (z_bool : PySem.W.nsIn K mainGlobals "bool" = some none) (z_len : PySem.W.nsIn K mainGlobals "len" = some none) (z_range : PySem.W.nsIn K mainGlobals "range" = some none) (z_list : PySem.W.nsIn K mainGlobals "list" = some none) (z_tuple : PySem.W.nsIn K mainGlobals "tuple" = some none) (z_reversed : PySem.W.nsIn K mainGlobals "reversed" = some none) (z_divmod : PySem.W.nsIn K mainGlobals "divmod" = some none) (z_sorted : PySem.W.nsIn K mainGlobals "sorted" = some none) (z_abs : PySem.W.nsIn K mainGlobals "abs" = some none) (z_min : PySem.W.nsIn K mainGlobals "min" = some none) (z_ValueError : PySem.W.nsIn K mainGlobals "ValueError" = some none) (z_str : PySem.W.nsIn K mainGlobals "str" = some none) (xa_NoNumber : PySem.W.nsIn K mainGlobals "NoNumber" = some (some (.ref C_NoNumber))) (xa_Apart : PySem.W.nsIn K mainGlobals "Apart" = some (some (.ref C_Apart))) (xa_NoEnd : PySem.W.nsIn K mainGlobals "NoEnd" = some (some (.ref C_NoEnd))) (xa_NoName : PySem.W.nsIn K mainGlobals "NoName" = some (some (.ref C_NoName))) (xa_NoOrder : PySem.W.nsIn K mainGlobals "NoOrder" = some (some (.ref C_NoOrder))) (xa_NoPaper : PySem.W.nsIn K mainGlobals "NoPaper" = some (some (.ref C_NoPaper))) (xa_NoPlace : PySem.W.nsIn K mainGlobals "NoPlace" = some (some (.ref C_NoPlace))) (xa_NoRing : PySem.W.nsIn K mainGlobals "NoRing" = some (some (.ref C_NoRing))) (xa_NoRow : PySem.W.nsIn K mainGlobals "NoRow" = some (some (.ref C_NoRow))) (xa_NoTable : PySem.W.nsIn K mainGlobals "NoTable" = some (some (.ref C_NoTable))) (xa_NoText : PySem.W.nsIn K mainGlobals "NoText" = some (some (.ref C_NoText))) (xa_NoTie : PySem.W.nsIn K mainGlobals "NoTie" = some (some (.ref C_NoTie))) (xa_NoWeb : PySem.W.nsIn K mainGlobals "NoWeb" = some (some (.ref C_NoWeb))) (xa_TooGreat : PySem.W.nsIn K mainGlobals "TooGreat" = some (some (.ref C_TooGreat))) (xa_TooMany : PySem.W.nsIn K mainGlobals "TooMany" = some (some (.ref C_TooMany))) (xa_FloorError : PySem.W.nsIn K mainGlobals "FloorError" = some (some (.ref C_FloorError))) (xq_NoNumber : PySem.W.excIn K C_NoNumber [.type "ValueError", .type "Exception", .type "BaseException", .type "object"] "ValueError.__new__" = true) (xk_NoNumber : PySem.W.keepIn K (.ref C_NoNumber) = true) (xb_NoNumber : PySem.W.subIn K (.ref C_NoNumber) (.type "BaseException") = some true) (xt_NoNumber : PySem.W.typeIn K (.ref C_NoNumber) = some (.type "type")) (xchg_NoNumber : PySem.W.findIn K (.ref C_NoNumber) "__getattribute__" = some (some (.builtin "BaseException.__getattribute__"))) (xchk_NoNumber : PySem.W.findIn K (.ref C_NoNumber) "__getattr__" = some none) (xchs_NoNumber : PySem.W.subIn K (.ref C_NoNumber) (.type "BaseException") = some true) (xchd_NoNumber : PySem.W.hasDictIn K C_NoNumber = true) (xcha_NoNumber : PySem.W.findIn K (.ref C_NoNumber) "__class__" = some (some (.builtin "object.__class__"))) (xchm_NoNumber : PySem.W.mroIn K C_NoNumber (.type "object") = some true) (xcn_NoNumber : PySem.W.specialIn K (.builtin "object.__class__") "__get__" = some (some (.builtin "getset_descriptor.__get__"))) (xct_NoNumber : PySem.W.takesIn K (.builtin "object.__class__") = some true) (xs_NoNumber_NoNumber : PySem.W.subIn K (.ref C_NoNumber) (.ref C_NoNumber) = some true) (xd_Apart : PySem.W.hasDictIn K C_Apart = true) (xt_Apart : PySem.W.typeIn K (.ref C_Apart) = some (.type "type")) (xs_NoNumber_Apart : PySem.W.subIn K (.ref C_NoNumber) (.ref C_Apart) = some false) (xd_NoEnd : PySem.W.hasDictIn K C_NoEnd = true) (xt_NoEnd : PySem.W.typeIn K (.ref C_NoEnd) = some (.type "type")) (xs_NoNumber_NoEnd : PySem.W.subIn K (.ref C_NoNumber) (.ref C_NoEnd) = some false) (xd_NoName : PySem.W.hasDictIn K C_NoName = true) (xt_NoName : PySem.W.typeIn K (.ref C_NoName) = some (.type "type")) (xs_NoNumber_NoName : PySem.W.subIn K (.ref C_NoNumber) (.ref C_NoName) = some false) (xd_NoNumber : PySem.W.hasDictIn K C_NoNumber = true) (xd_NoOrder : PySem.W.hasDictIn K C_NoOrder = true) (xt_NoOrder : PySem.W.typeIn K (.ref C_NoOrder) = some (.type "type")) (xs_NoNumber_NoOrder : PySem.W.subIn K (.ref C_NoNumber) (.ref C_NoOrder) = some false) (xd_NoPaper : PySem.W.hasDictIn K C_NoPaper = true) (xt_NoPaper : PySem.W.typeIn K (.ref C_NoPaper) = some (.type "type")) (xs_NoNumber_NoPaper : PySem.W.subIn K (.ref C_NoNumber) (.ref C_NoPaper) = some false) (xd_NoPlace : PySem.W.hasDictIn K C_NoPlace = true) (xt_NoPlace : PySem.W.typeIn K (.ref C_NoPlace) = some (.type "type")) (xs_NoNumber_NoPlace : PySem.W.subIn K (.ref C_NoNumber) (.ref C_NoPlace) = some false) (xd_NoRing : PySem.W.hasDictIn K C_NoRing = true) (xt_NoRing : PySem.W.typeIn K (.ref C_NoRing) = some (.type "type")) (xs_NoNumber_NoRing : PySem.W.subIn K (.ref C_NoNumber) (.ref C_NoRing) = some false) (xd_NoRow : PySem.W.hasDictIn K C_NoRow = true) (xt_NoRow : PySem.W.typeIn K (.ref C_NoRow) = some (.type "type")) (xs_NoNumber_NoRow : PySem.W.subIn K (.ref C_NoNumber) (.ref C_NoRow) = some false) (xd_NoTable : PySem.W.hasDictIn K C_NoTable = true) (xt_NoTable : PySem.W.typeIn K (.ref C_NoTable) = some (.type "type")) (xs_NoNumber_NoTable : PySem.W.subIn K (.ref C_NoNumber) (.ref C_NoTable) = some false) (xd_NoText : PySem.W.hasDictIn K C_NoText = true) (xt_NoText : PySem.W.typeIn K (.ref C_NoText) = some (.type "type")) (xs_NoNumber_NoText : PySem.W.subIn K (.ref C_NoNumber) (.ref C_NoText) = some false) (xd_NoTie : PySem.W.hasDictIn K C_NoTie = true) (xt_NoTie : PySem.W.typeIn K (.ref C_NoTie) = some (.type "type")) (xs_NoNumber_NoTie : PySem.W.subIn K (.ref C_NoNumber) (.ref C_NoTie) = some false) (xd_NoWeb : PySem.W.hasDictIn K C_NoWeb = true) (xt_NoWeb : PySem.W.typeIn K (.ref C_NoWeb) = some (.type "type")) (xs_NoNumber_NoWeb : PySem.W.subIn K (.ref C_NoNumber) (.ref C_NoWeb) = some false) (xd_TooGreat : PySem.W.hasDictIn K C_TooGreat = true) (xt_TooGreat : PySem.W.typeIn K (.ref C_TooGreat) = some (.type "type")) (xs_NoNumber_TooGreat : PySem.W.subIn K (.ref C_NoNumber) (.ref C_TooGreat) = some false) (xd_TooMany : PySem.W.hasDictIn K C_TooMany = true) (xt_TooMany : PySem.W.typeIn K (.ref C_TooMany) = some (.type "type")) (xs_NoNumber_TooMany : PySem.W.subIn K (.ref C_NoNumber) (.ref C_TooMany) = some false) (xs_NoNumber_ValueError : PySem.W.subIn K (.ref C_NoNumber) (.type "ValueError") = some true) (xb_FloorError : PySem.W.subIn K (.ref C_FloorError) (.type "BaseException") = some true) (xd_FloorError : PySem.W.hasDictIn K C_FloorError = true) (xt_FloorError : PySem.W.typeIn K (.ref C_FloorError) = some (.type "type")) (xs_NoNumber_FloorError : PySem.W.subIn K (.ref C_NoNumber) (.ref C_FloorError) = some true)
    (e_law : cd_law = .ref cc_law) (lc_law : K.lookup cc_law = some ⟨ec_law, dd_law, .fields vc_law, sc2_law⟩) (vp_law : vc_law[11]? = some (.ref Pt_law)) (np_law : K.lookup Pt_law = none) :
    ∃ (fd : FuncData) (o : Obj) (c Pt : Addr) (e : Value) (dd : Option Addr) (vs : Array Value) (sl : Array (Option Value)), K.lookup fa = some o ∧ o.data = .func fd ∧ fd.code = .ref c ∧ K.lookup c = some ⟨e, dd, .fields vs, sl⟩ ∧ vs[11]? = some (.ref Pt) ∧ K.lookup Pt = none ∧ (∀ (s : Shared) (v : Value), BindsTo s fd ⟨[v], []⟩ [("_law_script", v)]) ∧
      ∀ base : Heap, K.In base → base.Ns mainGlobals mg → LamX.TabB base mg c Pt → FnOk P w K mg base (L2N.CX P w) 7 fa fd ["_law_script"] (spT K mg (b_law_1a4dR Pt) ["_law_script", "_law_pen_here", "_law_web_here", "_law_many", "_law_far", "_law_some", "_law_thing", "#tab"] 7 Pt) := by
  have e : fa = f_law := by
    have e := hfa.symm.trans (PySem.W.mg_of X G a_law)
    cases e; rfl
  rw [e]
  subst e_law
  have F_is_whole := fun_mk (st := s_is_whole) l_is_whole c_is_whole k_is_whole
  have B_is_whole := F_is_whole.binds (ps := ["thing"]) fun _ _ _ _ _ _ us hl => match us, hl with | [_], _ => rfl
  have g_is_whole := PySem.W.mg_of X G a_is_whole
  have F_place_of := fun_mk (st := s_place_of) l_place_of c_place_of k_place_of
  have B_place_of := F_place_of.binds (ps := ["web", "end"]) fun _ _ _ _ _ _ us hl => match us, hl with | [_, _], _ => rfl
  have g_place_of := PySem.W.mg_of X G a_place_of
  have F_ends_of := fun_mk (st := s_ends_of) l_ends_of c_ends_of k_ends_of
  have B_ends_of := F_ends_of.binds (ps := ["web"]) fun _ _ _ _ _ _ us hl => match us, hl with | [_], _ => rfl
  have g_ends_of := PySem.W.mg_of X G a_ends_of
  have F_ends_at := fun_mk (st := s_ends_at) l_ends_at c_ends_at k_ends_at
  have B_ends_at := F_ends_at.binds (ps := ["web", "place"]) fun _ _ _ _ _ _ us hl => match us, hl with | [_, _], _ => rfl
  have g_ends_at := PySem.W.mg_of X G a_ends_at
  have F_rows_many := fun_mk (st := s_rows_many) l_rows_many c_rows_many k_rows_many
  have B_rows_many := F_rows_many.binds (ps := ["ends"]) fun _ _ _ _ _ _ us hl => match us, hl with | [_], _ => rfl
  have g_rows_many := PySem.W.mg_of X G a_rows_many
  have F_orders_many := fun_mk (st := s_orders_many) l_orders_many c_orders_many k_orders_many
  have B_orders_many := F_orders_many.binds (ps := ["web"]) fun _ _ _ _ _ _ us hl => match us, hl with | [_], _ => rfl
  have g_orders_many := PySem.W.mg_of X G a_orders_many
  have F_row_at := fun_mk (st := s_row_at) l_row_at c_row_at k_row_at
  have B_row_at := F_row_at.binds (ps := ["ends", "number"]) fun _ _ _ _ _ _ us hl => match us, hl with | [_, _], _ => rfl
  have g_row_at := PySem.W.mg_of X G a_row_at
  have F_order_at := fun_mk (st := s_order_at) l_order_at c_order_at k_order_at
  have B_order_at := F_order_at.binds (ps := ["web", "number"]) fun _ _ _ _ _ _ us hl => match us, hl with | [_, _], _ => rfl
  have g_order_at := PySem.W.mg_of X G a_order_at
  have F_row_number := fun_mk (st := s_row_number) l_row_number c_row_number k_row_number
  have B_row_number := F_row_number.binds (ps := ["row"]) fun _ _ _ _ _ _ us hl => match us, hl with | [_], _ => rfl
  have g_row_number := PySem.W.mg_of X G a_row_number
  have F_number_of := fun_mk (st := s_number_of) l_number_of c_number_of k_number_of
  have B_number_of := F_number_of.binds (ps := ["web", "order"]) fun _ _ _ _ _ _ us hl => match us, hl with | [_, _], _ => rfl
  have g_number_of := PySem.W.mg_of X G a_number_of
  have F_Lpen := fun_mk (st := s_Lpen) l_Lpen c_Lpen k_Lpen
  have B_Lpen := F_Lpen.binds (ps := ["_law_script"]) fun _ _ _ _ _ _ us hl => match us, hl with | [_], _ => rfl
  have g_Lpen := PySem.W.mg_of X G a_Lpen
  have F_Ldraw := fun_mk (st := s_Ldraw) l_Ldraw c_Ldraw k_Ldraw
  have B_Ldraw := F_Ldraw.binds (ps := ["_law_pen_here", "_law_many"]) fun _ _ _ _ _ _ us hl => match us, hl with | [_, _], _ => rfl
  have g_Ldraw := PySem.W.mg_of X G a_Ldraw
  have F_Lweb := fun_mk (st := s_Lweb) l_Lweb c_Lweb k_Lweb
  have B_Lweb := F_Lweb.binds (ps := ["_law_pen_here", "_law_places", "_law_ties"]) fun _ _ _ _ _ _ us hl => match us, hl with | [_, _, _], _ => rfl
  have g_Lweb := PySem.W.mg_of X G a_Lweb
  have F_Lword := fun_mk (st := s_Lword) l_Lword c_Lword k_Lword
  have B_Lword := F_Lword.binds (ps := ["_law_e"]) fun _ _ _ _ _ _ us hl => match us, hl with | [_], _ => rfl
  have g_Lword := PySem.W.mg_of X G a_Lword
  have F_Ltold := fun_mk (st := s_Ltold) l_Ltold c_Ltold k_Ltold
  have B_Ltold := F_Ltold.binds (ps := ["_law_asked"]) fun _ _ _ _ _ _ us hl => match us, hl with | [_], _ => rfl
  have g_Ltold := PySem.W.mg_of X G a_Ltold
  have F_law := fun_mk (st := s_law) l_law c_law k_law
  have B_law := F_law.binds (ps := ["_law_script"]) fun _ _ _ _ _ _ us hl => match us, hl with | [_], _ => rfl
  have g_law := PySem.W.mg_of X G a_law
  have y_isinstance := PySem.W.mg_none_of X G z_isinstance
  have y_int := PySem.W.mg_none_of X G z_int
  have y_bool := PySem.W.mg_none_of X G z_bool
  have y_len := PySem.W.mg_none_of X G z_len
  have y_range := PySem.W.mg_none_of X G z_range
  have y_list := PySem.W.mg_none_of X G z_list
  have y_tuple := PySem.W.mg_none_of X G z_tuple
  have y_reversed := PySem.W.mg_none_of X G z_reversed
  have y_divmod := PySem.W.mg_none_of X G z_divmod
  have y_sorted := PySem.W.mg_none_of X G z_sorted
  have y_abs := PySem.W.mg_none_of X G z_abs
  have y_min := PySem.W.mg_none_of X G z_min
  have y_ValueError := PySem.W.mg_none_of X G z_ValueError
  have y_str := PySem.W.mg_none_of X G z_str
  have gx_NoNumber := PySem.W.mg_of X G xa_NoNumber
  have gx_Apart := PySem.W.mg_of X G xa_Apart
  have gx_NoEnd := PySem.W.mg_of X G xa_NoEnd
  have gx_NoName := PySem.W.mg_of X G xa_NoName
  have gx_NoOrder := PySem.W.mg_of X G xa_NoOrder
  have gx_NoPaper := PySem.W.mg_of X G xa_NoPaper
  have gx_NoPlace := PySem.W.mg_of X G xa_NoPlace
  have gx_NoRing := PySem.W.mg_of X G xa_NoRing
  have gx_NoRow := PySem.W.mg_of X G xa_NoRow
  have gx_NoTable := PySem.W.mg_of X G xa_NoTable
  have gx_NoText := PySem.W.mg_of X G xa_NoText
  have gx_NoTie := PySem.W.mg_of X G xa_NoTie
  have gx_NoWeb := PySem.W.mg_of X G xa_NoWeb
  have gx_TooGreat := PySem.W.mg_of X G xa_TooGreat
  have gx_TooMany := PySem.W.mg_of X G xa_TooMany
  have gx_FloorError := PySem.W.mg_of X G xa_FloorError
  have x_NoNumber : ExK K mg "NoNumber" C_NoNumber := ⟨gx_NoNumber, xq_NoNumber, xk_NoNumber, xb_NoNumber, xt_NoNumber⟩
  have xc_NoNumber : ExcC K C_NoNumber := ⟨xchg_NoNumber, xchk_NoNumber, xchs_NoNumber, xchd_NoNumber, xcha_NoNumber, xcn_NoNumber, xct_NoNumber, xchm_NoNumber⟩
  have kk_NoNumber_Apart : PySem.W.kitOne K (.ref C_NoNumber) (.ref C_Apart) = some false := (kit_ref xs_NoNumber_NoNumber xd_Apart xt_Apart xs_NoNumber_Apart)
  have kk_NoNumber_NoEnd : PySem.W.kitOne K (.ref C_NoNumber) (.ref C_NoEnd) = some false := (kit_ref xs_NoNumber_NoNumber xd_NoEnd xt_NoEnd xs_NoNumber_NoEnd)
  have kk_NoNumber_NoName : PySem.W.kitOne K (.ref C_NoNumber) (.ref C_NoName) = some false := (kit_ref xs_NoNumber_NoNumber xd_NoName xt_NoName xs_NoNumber_NoName)
  have kk_NoNumber_NoNumber : PySem.W.kitOne K (.ref C_NoNumber) (.ref C_NoNumber) = some true := (kit_ref xs_NoNumber_NoNumber xd_NoNumber xt_NoNumber xs_NoNumber_NoNumber)
  have kk_NoNumber_NoOrder : PySem.W.kitOne K (.ref C_NoNumber) (.ref C_NoOrder) = some false := (kit_ref xs_NoNumber_NoNumber xd_NoOrder xt_NoOrder xs_NoNumber_NoOrder)
  have kk_NoNumber_NoPaper : PySem.W.kitOne K (.ref C_NoNumber) (.ref C_NoPaper) = some false := (kit_ref xs_NoNumber_NoNumber xd_NoPaper xt_NoPaper xs_NoNumber_NoPaper)
  have kk_NoNumber_NoPlace : PySem.W.kitOne K (.ref C_NoNumber) (.ref C_NoPlace) = some false := (kit_ref xs_NoNumber_NoNumber xd_NoPlace xt_NoPlace xs_NoNumber_NoPlace)
  have kk_NoNumber_NoRing : PySem.W.kitOne K (.ref C_NoNumber) (.ref C_NoRing) = some false := (kit_ref xs_NoNumber_NoNumber xd_NoRing xt_NoRing xs_NoNumber_NoRing)
  have kk_NoNumber_NoRow : PySem.W.kitOne K (.ref C_NoNumber) (.ref C_NoRow) = some false := (kit_ref xs_NoNumber_NoNumber xd_NoRow xt_NoRow xs_NoNumber_NoRow)
  have kk_NoNumber_NoTable : PySem.W.kitOne K (.ref C_NoNumber) (.ref C_NoTable) = some false := (kit_ref xs_NoNumber_NoNumber xd_NoTable xt_NoTable xs_NoNumber_NoTable)
  have kk_NoNumber_NoText : PySem.W.kitOne K (.ref C_NoNumber) (.ref C_NoText) = some false := (kit_ref xs_NoNumber_NoNumber xd_NoText xt_NoText xs_NoNumber_NoText)
  have kk_NoNumber_NoTie : PySem.W.kitOne K (.ref C_NoNumber) (.ref C_NoTie) = some false := (kit_ref xs_NoNumber_NoNumber xd_NoTie xt_NoTie xs_NoNumber_NoTie)
  have kk_NoNumber_NoWeb : PySem.W.kitOne K (.ref C_NoNumber) (.ref C_NoWeb) = some false := (kit_ref xs_NoNumber_NoNumber xd_NoWeb xt_NoWeb xs_NoNumber_NoWeb)
  have kk_NoNumber_TooGreat : PySem.W.kitOne K (.ref C_NoNumber) (.ref C_TooGreat) = some false := (kit_ref xs_NoNumber_NoNumber xd_TooGreat xt_TooGreat xs_NoNumber_TooGreat)
  have kk_NoNumber_TooMany : PySem.W.kitOne K (.ref C_NoNumber) (.ref C_TooMany) = some false := (kit_ref xs_NoNumber_NoNumber xd_TooMany xt_TooMany xs_NoNumber_TooMany)
  have kk_NoNumber_ValueError : PySem.W.kitOne K (.ref C_NoNumber) (.type "ValueError") = some true := (kit_bty (by decide +kernel) xs_NoNumber_ValueError)
  have xe_NoNumber_FloorError : PySem.W.exmOne K (.ref C_NoNumber) (.ref C_FloorError) = some true := PySem.W.exm_ref xb_FloorError xd_FloorError xt_FloorError xs_NoNumber_FloorError
  refine ⟨PySem.W.fnOf "law" "law" (defArgs s_law) (defBody s_law) (defScope s_law) .none kV_law dc_law pm_law an_law (.ref cc_law) ct_law, _, cc_law, Pt_law, _, _, _, _, l_law, rfl, rfl, lc_law, vp_law, np_law, fun s v => .of_eq rfl, fun base _ _ TBt => ?_⟩
  have G_is_whole : FnOk P w K mg base (L2N.CX P w) 1 f_is_whole _ ["thing"] (spD K mg sem_is_whole_637d 1) := ok_is_whole (k := 0) F_is_whole y_isinstance y_int y_bool
  have G_place_of : FnOk P w K mg base (L2N.CX P w) 1 f_place_of _ ["web", "end"] (spD K mg sem_place_of_8c4c 2) := ok_place_of (k := 0) F_place_of 
  have G_ends_of : FnOk P w K mg base (L2N.CX P w) 1 f_ends_of _ ["web"] (spD K mg sem_ends_of_168e 1) := ok_ends_of (k := 0) F_ends_of y_len
  have G_ends_at : FnOk P w K mg base (L2N.CX P w) 2 f_ends_at _ ["web", "place"] (spD K mg sem_ends_at_2b9c 2) := ok_ends_at (k := 1) F_ends_at (G_ends_of.mono (by decide : 1 ≤ 1)) g_ends_of k_ends_of B_ends_of (G_place_of.mono (by decide : 1 ≤ 1)) g_place_of k_place_of B_place_of y_range
  have G_rows_many : FnOk P w K mg base (L2N.CX P w) 1 f_rows_many _ ["ends"] (spD K mg sem_rows_many_c3e5 1) := ok_rows_many (k := 0) F_rows_many y_range
  have G_orders_many : FnOk P w K mg base (L2N.CX P w) 3 f_orders_many _ ["web"] (spD K mg sem_orders_many_0e37 1) := ok_orders_many (k := 2) F_orders_many (G_rows_many.mono (by decide : 1 ≤ 2)) g_rows_many k_rows_many B_rows_many (G_ends_at.mono (by decide : 2 ≤ 2)) g_ends_at k_ends_at B_ends_at y_range y_len
  have G_row_at : FnOk P w K mg base (L2N.CX P w) 2 f_row_at _ ["ends", "number"] (spD K mg sem_row_at_886b 2) := ok_row_at (k := 1) F_row_at (G_rows_many.mono (by decide : 1 ≤ 1)) g_rows_many k_rows_many B_rows_many y_list y_len y_tuple
  have G_order_at : FnOk P w K mg base (L2N.CX P w) 4 f_order_at _ ["web", "number"] (spD K mg sem_order_at_e71fR 2) := ok_order_at (k := 3) F_order_at (G_is_whole.mono (by decide : 1 ≤ 3)) g_is_whole k_is_whole B_is_whole (G_orders_many.mono (by decide : 3 ≤ 3)) g_orders_many k_orders_many B_orders_many (G_ends_at.mono (by decide : 2 ≤ 3)) g_ends_at k_ends_at B_ends_at (G_rows_many.mono (by decide : 1 ≤ 3)) g_rows_many k_rows_many B_rows_many (G_row_at.mono (by decide : 2 ≤ 3)) g_row_at k_row_at B_row_at y_reversed y_range y_len y_divmod y_tuple x_NoNumber
  have G_row_number : FnOk P w K mg base (L2N.CX P w) 2 f_row_number _ ["row"] (spD K mg sem_row_number_7a06 1) := ok_row_number (k := 1) F_row_number (G_rows_many.mono (by decide : 1 ≤ 1)) g_rows_many k_rows_many B_rows_many y_sorted y_len
  have G_number_of : FnOk P w K mg base (L2N.CX P w) 3 f_number_of _ ["web", "order"] (spD K mg sem_number_of_1429 2) := ok_number_of (k := 2) F_number_of (G_rows_many.mono (by decide : 1 ≤ 2)) g_rows_many k_rows_many B_rows_many (G_row_number.mono (by decide : 2 ≤ 2)) g_row_number k_row_number B_row_number y_len
  have G_Lpen : FnOk P w K mg base (L2N.CX P w) 1 f_Lpen _ ["_law_script"] (spD K mg sem_Lpen_3d2f 1) := ok_Lpen (k := 0) F_Lpen 
  have G_Ldraw : FnOk P w K mg base (L2N.CX P w) 1 f_Ldraw _ ["_law_pen_here", "_law_many"] (spD K mg sem_Ldraw_de5b 2) := ok_Ldraw (k := 0) F_Ldraw y_len y_abs
  have G_Lweb : FnOk P w K mg base (L2N.CX P w) 2 f_Lweb _ ["_law_pen_here", "_law_places", "_law_ties"] (spD K mg sem_Lweb_0350 3) := ok_Lweb (k := 1) F_Lweb (G_Ldraw.mono (by decide : 1 ≤ 1)) g_Ldraw k_Ldraw B_Ldraw y_range y_min y_tuple
  have W_NoNumber : FnW P w K mg base 4 f_Lword _ "_law_e" C_NoNumber sem_WNoNumber_1ef6 := okw_NoNumber (k := 3) F_Lword y_isinstance y_len y_ValueError gx_Apart xc_NoNumber kk_NoNumber_Apart gx_NoEnd kk_NoNumber_NoEnd gx_NoName kk_NoNumber_NoName gx_NoNumber kk_NoNumber_NoNumber gx_NoOrder kk_NoNumber_NoOrder gx_NoPaper kk_NoNumber_NoPaper gx_NoPlace kk_NoNumber_NoPlace gx_NoRing kk_NoNumber_NoRing gx_NoRow kk_NoNumber_NoRow gx_NoTable kk_NoNumber_NoTable gx_NoText kk_NoNumber_NoText gx_NoTie kk_NoNumber_NoTie gx_NoWeb kk_NoNumber_NoWeb gx_TooGreat kk_NoNumber_TooGreat gx_TooMany kk_NoNumber_TooMany kk_NoNumber_ValueError
  have G_law := ok_law (P := P) (w := w) (k := 4) l_law c_law TBt (G_Lpen.mono (by decide : 1 ≤ 4)) g_Lpen k_Lpen B_Lpen (G_Lweb.mono (by decide : 2 ≤ 4)) g_Lweb k_Lweb B_Lweb (G_orders_many.mono (by decide : 3 ≤ 4)) g_orders_many k_orders_many B_orders_many (G_Ldraw.mono (by decide : 1 ≤ 4)) g_Ldraw k_Ldraw B_Ldraw (G_order_at.mono (by decide : 4 ≤ 4)) g_order_at k_order_at B_order_at (G_number_of.mono (by decide : 3 ≤ 4)) g_number_of k_number_of B_number_of y_str gx_NoNumber xe_NoNumber_FloorError gx_FloorError l_Ltold c_Ltold g_Ltold k_Ltold B_Ltold g_Lword k_Lword B_Lword W_NoNumber
  exact G_law
end
end Lw
end

section
namespace Lw
open PySem DL
theorem law_true (P : Nat) (ns : List Int) (h : ns.length ≤ 63) : ∃ ys, ys.length = 1 ∧ (sem_law_1a4dR P) [.fz (scrD ns)] = some (.ok (.val (.bool true)), ys) := by
  obtain ⟨o, ys, e, rfl, hl⟩ := law08_ok P ns h
  exact ⟨ys, hl, e⟩
end Lw
end

section
open PySem PySem.W PyProof.Rows
set_option maxRecDepth 100000 in
set_option maxHeartbeats 0 in
theorem PySem.Challenge.cw_holefloor_k08_no_number_of_an_order_holds : PySem.Challenge.rw_holefloor_k08_no_number_of_an_order.Holds := by
  w_on; o_law; k_head; (case hw => w_witness2)
  k_fill
  refine DL.walk_dT (l := PySem.Challenge.rw_holefloor_k08_no_number_of_an_order) (n := 63) (k := 7) (i := 7) (x := "_law_script") (N := ["_law_script", "_law_pen_here", "_law_web_here", "_law_many", "_law_far", "_law_some", "_law_thing", "#tab"]) (body := Lw.b_law_1a4dR) rfl (by decide) rfl ⟨rfl, by decide, by decide⟩ (by decide +kernel) (fun w h Y => PySem.W.km_in_of Y) (by decide) (by decide) (fun Pt ns h => Lw.law_true Pt ns h) ?F
  case F =>
    intro w mg fa h KX G hmg
    refine' Lw.all_mk KX G hmg ?a_is_whole ?l_is_whole ?c_is_whole ?k_is_whole ?a_place_of ?l_place_of ?c_place_of ?k_place_of ?a_ends_of ?l_ends_of ?c_ends_of ?k_ends_of ?a_ends_at ?l_ends_at ?c_ends_at ?k_ends_at ?a_rows_many ?l_rows_many ?c_rows_many ?k_rows_many ?a_orders_many ?l_orders_many ?c_orders_many ?k_orders_many ?a_row_at ?l_row_at ?c_row_at ?k_row_at ?a_order_at ?l_order_at ?c_order_at ?k_order_at ?a_row_number ?l_row_number ?c_row_number ?k_row_number ?a_number_of ?l_number_of ?c_number_of ?k_number_of ?a_Lpen ?l_Lpen ?c_Lpen ?k_Lpen ?a_Ldraw ?l_Ldraw ?c_Ldraw ?k_Ldraw ?a_Lweb ?l_Lweb ?c_Lweb ?k_Lweb ?a_Lword ?l_Lword ?c_Lword ?k_Lword ?a_Ltold ?l_Ltold ?c_Ltold ?k_Ltold ?a_law ?l_law ?c_law ?k_law ?z_isinstance ?z_int ?z_bool ?z_len ?z_range ?z_list ?z_tuple ?z_reversed ?z_divmod ?z_sorted ?z_abs ?z_min ?z_ValueError ?z_str ?xa_NoNumber ?xa_Apart ?xa_NoEnd ?xa_NoName ?xa_NoOrder ?xa_NoPaper ?xa_NoPlace ?xa_NoRing ?xa_NoRow ?xa_NoTable ?xa_NoText ?xa_NoTie ?xa_NoWeb ?xa_TooGreat ?xa_TooMany ?xa_FloorError ?xq_NoNumber ?xk_NoNumber ?xb_NoNumber ?xt_NoNumber ?xchg_NoNumber ?xchk_NoNumber ?xchs_NoNumber ?xchd_NoNumber ?xcha_NoNumber ?xchm_NoNumber ?xcn_NoNumber ?xct_NoNumber ?xs_NoNumber_NoNumber ?xd_Apart ?xt_Apart ?xs_NoNumber_Apart ?xd_NoEnd ?xt_NoEnd ?xs_NoNumber_NoEnd ?xd_NoName ?xt_NoName ?xs_NoNumber_NoName ?xd_NoNumber ?xd_NoOrder ?xt_NoOrder ?xs_NoNumber_NoOrder ?xd_NoPaper ?xt_NoPaper ?xs_NoNumber_NoPaper ?xd_NoPlace ?xt_NoPlace ?xs_NoNumber_NoPlace ?xd_NoRing ?xt_NoRing ?xs_NoNumber_NoRing ?xd_NoRow ?xt_NoRow ?xs_NoNumber_NoRow ?xd_NoTable ?xt_NoTable ?xs_NoNumber_NoTable ?xd_NoText ?xt_NoText ?xs_NoNumber_NoText ?xd_NoTie ?xt_NoTie ?xs_NoNumber_NoTie ?xd_NoWeb ?xt_NoWeb ?xs_NoNumber_NoWeb ?xd_TooGreat ?xt_TooGreat ?xs_NoNumber_TooGreat ?xd_TooMany ?xt_TooMany ?xs_NoNumber_TooMany ?xs_NoNumber_ValueError ?xb_FloorError ?xd_FloorError ?xt_FloorError ?xs_NoNumber_FloorError ?e_law ?lc_law ?vp_law ?np_law
    (case a_is_whole => k_is); (case l_is_whole => k_is); (case c_is_whole => k_is); (case k_is_whole => k_is); (case a_place_of => k_is); (case l_place_of => k_is); (case c_place_of => k_is); (case k_place_of => k_is); (case a_ends_of => k_is); (case l_ends_of => k_is); (case c_ends_of => k_is); (case k_ends_of => k_is); (case a_ends_at => k_is); (case l_ends_at => k_is); (case c_ends_at => k_is); (case k_ends_at => k_is); (case a_rows_many => k_is); (case l_rows_many => k_is); (case c_rows_many => k_is); (case k_rows_many => k_is); (case a_orders_many => k_is); (case l_orders_many => k_is); (case c_orders_many => k_is); (case k_orders_many => k_is); (case a_row_at => k_is); (case l_row_at => k_is); (case c_row_at => k_is); (case k_row_at => k_is); (case a_order_at => k_is); (case l_order_at => k_is); (case c_order_at => k_is); (case k_order_at => k_is); (case a_row_number => k_is); (case l_row_number => k_is); (case c_row_number => k_is); (case k_row_number => k_is); (case a_number_of => k_is); (case l_number_of => k_is); (case c_number_of => k_is); (case k_number_of => k_is); (case a_Lpen => k_is); (case l_Lpen => k_is); (case c_Lpen => k_is); (case k_Lpen => k_is); (case a_Ldraw => k_is); (case l_Ldraw => k_is); (case c_Ldraw => k_is); (case k_Ldraw => k_is); (case a_Lweb => k_is); (case l_Lweb => k_is); (case c_Lweb => k_is); (case k_Lweb => k_is); (case a_Lword => k_is); (case l_Lword => k_is); (case c_Lword => k_is); (case k_Lword => k_is); (case a_Ltold => k_is); (case l_Ltold => k_is); (case c_Ltold => k_is); (case k_Ltold => k_is); (case a_law => k_is); (case l_law => k_is); (case c_law => k_is); (case k_law => k_is); (case z_isinstance => k_is); (case z_int => k_is); (case z_bool => k_is); (case z_len => k_is); (case z_range => k_is); (case z_list => k_is); (case z_tuple => k_is); (case z_reversed => k_is); (case z_divmod => k_is); (case z_sorted => k_is); (case z_abs => k_is); (case z_min => k_is); (case z_ValueError => k_is); (case z_str => k_is); (case xa_NoNumber => k_is); (case xa_Apart => k_is); (case xa_NoEnd => k_is); (case xa_NoName => k_is); (case xa_NoOrder => k_is); (case xa_NoPaper => k_is); (case xa_NoPlace => k_is); (case xa_NoRing => k_is); (case xa_NoRow => k_is); (case xa_NoTable => k_is); (case xa_NoText => k_is); (case xa_NoTie => k_is); (case xa_NoWeb => k_is); (case xa_TooGreat => k_is); (case xa_TooMany => k_is); (case xa_FloorError => k_is); (case xq_NoNumber => k_exc); (case xk_NoNumber => k_is); (case xb_NoNumber => k_is); (case xt_NoNumber => k_is); (case xchg_NoNumber => k_is); (case xchk_NoNumber => k_is); (case xchs_NoNumber => k_is); (case xchd_NoNumber => k_is); (case xcha_NoNumber => k_is); (case xchm_NoNumber => k_is); (case xcn_NoNumber => k_is); (case xct_NoNumber => k_is); (case xs_NoNumber_NoNumber => k_is); (case xd_Apart => k_is); (case xt_Apart => k_is); (case xs_NoNumber_Apart => k_is); (case xd_NoEnd => k_is); (case xt_NoEnd => k_is); (case xs_NoNumber_NoEnd => k_is); (case xd_NoName => k_is); (case xt_NoName => k_is); (case xs_NoNumber_NoName => k_is); (case xd_NoNumber => k_is); (case xd_NoOrder => k_is); (case xt_NoOrder => k_is); (case xs_NoNumber_NoOrder => k_is); (case xd_NoPaper => k_is); (case xt_NoPaper => k_is); (case xs_NoNumber_NoPaper => k_is); (case xd_NoPlace => k_is); (case xt_NoPlace => k_is); (case xs_NoNumber_NoPlace => k_is); (case xd_NoRing => k_is); (case xt_NoRing => k_is); (case xs_NoNumber_NoRing => k_is); (case xd_NoRow => k_is); (case xt_NoRow => k_is); (case xs_NoNumber_NoRow => k_is); (case xd_NoTable => k_is); (case xt_NoTable => k_is); (case xs_NoNumber_NoTable => k_is); (case xd_NoText => k_is); (case xt_NoText => k_is); (case xs_NoNumber_NoText => k_is); (case xd_NoTie => k_is); (case xt_NoTie => k_is); (case xs_NoNumber_NoTie => k_is); (case xd_NoWeb => k_is); (case xt_NoWeb => k_is); (case xs_NoNumber_NoWeb => k_is); (case xd_TooGreat => k_is); (case xt_TooGreat => k_is); (case xs_NoNumber_TooGreat => k_is); (case xd_TooMany => k_is); (case xt_TooMany => k_is); (case xs_NoNumber_TooMany => k_is); (case xs_NoNumber_ValueError => k_is); (case xb_FloorError => k_is); (case xd_FloorError => k_is); (case xt_FloorError => k_is); (case xs_NoNumber_FloorError => k_is); (case e_law => rfl); (case lc_law => k_is); (case vp_law => rfl); (case np_law => rfl)
end
