import PyProof.Rows.All
import PySem.PyData
import PySem.Str
import HandS.ForMost
import HandS.Exc
import HandS.TryOnly
import HandS.ExcOwn
import HandS.WordsExc
import HandS.TupAny
import HandS.HotCalls
import PyProof.P3Statements
import PyProof.Lay0
import HandS.Wide
import HandS.IsInst
import HandS.Deep
import HandS.TupMul
import HandS.Zip
import HandS.Rev
import HandS.More
import HandS.Strs
import HandS.WordsDict
import HandS.Style
import KE.DataMinMax
import KE.SortData
import HandS.SortInts
import HandS.Conv
import KE.GoesMore
import HandS.SetFor
import HandS.SetKeys
import HandS.ExcIs
import HandS.RevRange
import HandS.WideBits
import PyProof.ReprLen
import PyProof.ReprRoads
import KE.KTupSum
import HandS.EndTab
import HandS.Text
import HandS.Dict
import HandS.DictSubView
import HandS.SortKw
import HandS.CallLocal
import Wide.All
import OpenK.AllK
import Wide.FinOn
import PySem.Challenge.RW_holefloor_k80_floors_of_several_parts
set_option Elab.async false
set_option linter.all false
set_option maxRecDepth 100000
section
namespace DL
open PySem
abbrev D := PyData
abbrev Ky := Sum Int Str
/-- what an owned mutable object holds -/
inductive Ct where
  | lst (ds : List D)
  | dK (kvs : List (Ky × D))
  | dT (kvs : List (List Ky × D))
  /-- a list of lists, all of them owned -/
  | ll (rows : List (List D))
  /-- a dict of lists, all of them owned -/
  | dl (kvs : List (Ky × List D))
/-- a slot: nothing known; shared data that stands still; an owned object. The Bool: a parameter lent by the caller -/
inductive Sl where
  | non
  | frz (b : Bool) (d : D)
  | own (b : Bool) (c : Ct)
  /-- the k-th list of the list of lists in slot j -/
  | al (j k : Nat)
abbrev Ro := List Sl
/-- an expression's result: data that stands still, or a new object of one's own -/
inductive RV where
  | val (d : D)
  | new (c : Ct)
structure Exn where
  cls : String
  row : Option Int
inductive EO (α : Type) where
  | ok (a : α)
  | exc (x : Exn)
def M (α : Type) := Ro → Option (EO α × Ro)
def M.bind {α β : Type} (m : M α) (f : α → M β) : M β := fun r => match m r with
  | none => none
  | some (.ok a, r') => f a r'
  | some (.exc x, r') => some (.exc x, r')
def M.ret {α : Type} (a : α) : M α := fun r => some (.ok a, r)
def M.of {α : Type} (o : Option α) : M α := fun r => o.map fun a => (.ok a, r)
/-- an operand: a slot looked at when the operation is done, or a value -/
inductive AV where
  | slot (i : Nat)
  | val (d : D)
/-- an operand looked at -/
inductive Rs where
  | fz (d : D)
  | ow (c : Ct)
def look (r : Ro) : AV → Option Rs
  | .val d => some (.fz d)
  | .slot i => match r[i]? with
    | some (.frz _ d) => some (.fz d)
    | some (.own _ c) => some (.ow c)
    | _ => none
/-- no slot looks into slot i -/
def noAl (r : Ro) (i : Nat) : Bool := r.all fun x => match x with
  | .al j _ => j != i
  | _ => true
/-- .. a list in a list of lists, too -/
def look2 (r : Ro) : AV → Option Rs
  | .val d => some (.fz d)
  | .slot i => match r[i]? with
    | some (.frz _ d) => some (.fz d)
    | some (.own _ c) => some (.ow c)
    | some (.al j k) => match r[j]? with
      | some (.own _ (.ll rows)) => rows[k]?.map fun ds => .ow (.lst ds)
      | _ => none
    | _ => none
def looks2 (r : Ro) : List AV → Option (List Rs)
  | [] => some []
  | a :: as => match look2 r a, looks2 r as with
    | some x, some xs => some (x :: xs)
    | _, _ => none
def looks (r : Ro) : List AV → Option (List Rs)
  | [] => some []
  | a :: as => match look r a, looks r as with
    | some x, some xs => some (x :: xs)
    | _, _ => none
def Ct.data : Ct → Option D
  | .lst ds => some (.list ds)
  | _ => none
def Rs.data : Rs → Option D
  | .fz d => some d
  | .ow c => c.data
/-- a new result stands still from now on -/
def RV.data : RV → Option D
  | .val d => some d
  | .new c => c.data
/-- the slot read as a value: what was owned stands still from now on -/
def mRd (i : Nat) : M RV := fun r => match r[i]? with
  | some (.frz _ d) => some (.ok (.val d), r)
  | some (.own b (.lst ds)) => some (.ok (.val (.list ds)), r.set i (.frz b (.list ds)))
  | some (.own b (.ll rows)) => some (.ok (.val (.list (rows.map .list))), r.set i (.frz b (.list (rows.map .list))))
  | _ => none
def mC (d : D) : M RV := M.ret (.val d)
/-- an operand by its slot; by an expression -/
def oS (i : Nat) : M AV := fun r => match look2 r (.slot i) with
  | some _ => some (.ok (.slot i), r)
  | none => none
def oE (m : M RV) : M AV := m.bind fun rv => M.of (rv.data.map .val)
def oL : List (M AV) → M (List AV)
  | [] => M.ret []
  | m :: ms => m.bind fun a => (oL ms).bind fun as => M.ret (a :: as)
/-- the operation, its operands looked at -/
def mFin (g : List Rs → Option RV) (as : List AV) : M RV := fun r => match looks2 r as with
  | none => none
  | some xs => (g xs).map fun v => (.ok v, r)
def mOp (g : List Rs → Option RV) (os : List (M AV)) : M RV := (oL os).bind (mFin g)
end DL
end

section
namespace DL
open PySem PySem.Spec PyProof.Rows L2
def TP (o : Obj) : Prop := o.cls = .type "tuple" ∧ o.dict = none
/-- a tuple whose object is known to have no dict -/
def TupAt (H : Hp) (a : Addr) (xs : List V) : Prop := ∃ o, TP o ∧ H a = some (.frz o (.tup xs))
theorem TupAt.sq {K : PySem.W.Frag} {H : Hp} {a : Addr} {xs : List V} (h : TupAt H a xs) : SqT K H a xs := let ⟨o, _, e⟩ := h; .inl (.inr ⟨o, e⟩)
theorem tup_same {H H' : Hp} {a : Addr} {xs : List V} (e : Same H H') (h : TupAt H a xs) : TupAt H' a xs := let ⟨o, t, q⟩ := h; ⟨o, t, e _ _ q⟩
theorem tupAt_new {H : Hp} {p : Addr} {o : Obj} {xs : List V} (t : TP o) : TupAt (upd H p (.frz o (.tup xs))) p xs := ⟨o, t, upd_same⟩
section
variable {X : Cx} {pins : List (Addr × Obj)} {σ : L2.St} {H : Hp} {s : Shared}
theorem Inv.layT {its : List Value} {xs : List V} {t' : Nat} {h' : Heap} (I : Inv X pins σ H s) (k : ∀ b u, s.heap.get? b = some u → h'.get? b = some u) (hs : h'.objs.size = s.heap.objs.size) (hv : Vals xs its) (hz : xs.length ≤ sizeLine) :
    Inv X pins σ (upd H h'.objs.size (.frz { cls := .type "tuple", data := .seq its.toArray } (.tup xs))) { s with heap := h'.push { cls := .type "tuple", data := .seq its.toArray }, toks := t' } := by
  have e := Heap.get?_push_size h' (o := { cls := .type "tuple", data := .seq its.toArray }) rfl
  exact I.laid (fun b o q => Heap.get?_push_of_some _ (k b o q)) (by rw [hs]; exact Nat.le_refl _) ⟨e, hz, its, hv, ⟨_, e, rfl, _, rfl⟩⟩
theorem fe_tup {es : List Expr} {t : TA} {x1 : Nat} {pos : Pos} (h : PA X es t) : PE X (.Tuple es x1 pos) (fun σ H Q => t σ H fun xs H1 => xs.length ≤ sizeLine ∧ ∀ p o, H1 p = none → TP o → Q (.ref p) (upd H1 p (.frz o (.tup xs)))) := by
  refine ⟨fun pins s σ H Q I hq => ?_⟩
  refine wpAny_Tuple_spliced (thn (h.run pos pins s σ H _ I hq) fun us s1 ⟨xs, H1, I1, r, z, q⟩ => ⟨by rw [← r.length]; exact z, ?_⟩)
  have hf : H1 s1.heap.objs.size = none := I1.hok.fresh (Nat.le_refl _)
  exact ⟨.ref s1.heap.objs.size, _, Inv.layT (t' := s1.toks) I1 (fun b u e => e) rfl r z, rfl, q _ _ hf ⟨rfl, rfl⟩⟩
theorem fcall_tuple : CallR X (.type "tuple") (fun xs H Q => ∃ p ys, xs = [.ref p] ∧ ((SqL X.K H p ys ∧ ∀ l o, H l = none → TP o → Q (.ref l) (upd H l (.frz o (.tup ys)))) ∨ (SqT X.K H p ys ∧ Q (.ref p) H))) := by
  intro pins s σ H xs us Q I r h
  obtain ⟨p, ys, rfl, h⟩ := h
  obtain ⟨u, rfl, rx⟩ := vals1 r
  cases rx
  rcases h with ⟨hq, q⟩ | ⟨hq, q⟩
  · obtain ⟨its, r', pl, hz⟩ := I.list hq
    have hlen := r'.length
    refine call_tuple_list pl.isList (fun h' kp => ?_) (by simp only [List.size_toArray] <;> omega)
    have I1 : Inv X pins σ H { s with heap := h' } := I.kept (t' := s.toks) kp
    exact ⟨.ref h'.objs.size, _, Inv.layT (s := { s with heap := h' }) (t' := s.toks) I1 (fun b u e => e) rfl r' hz, rfl, q _ _ (I1.hok.fresh (Nat.le_refl _)) ⟨rfl, rfl⟩⟩
  · obtain ⟨its, r', pl, hz⟩ := I.tuple hq
    exact call_tuple_same pl ⟨.ref p, H, I, rfl, q⟩
theorem fop_cat : OpR X (binaryOp .Add) (fun x y H Q => ∃ a b xs ys, x = .ref a ∧ y = .ref b ∧ SqT X.K H a xs ∧ SqT X.K H b ys ∧ xs.length + ys.length ≤ sizeLine ∧
    (xs = [] → Q (.ref b) H) ∧ (xs ≠ [] → ys = [] → Q (.ref a) H) ∧ (xs ≠ [] → ys ≠ [] → ∀ p o, H p = none → TP o → Q (.ref p) (upd H p (.frz o (.tup (xs ++ ys)))))) := by
  intro pins s σ H x y v u Q I rx ry h
  obtain ⟨a, b, xs, ys, rfl, rfl, ha, hb, hz, q0, q1, q2⟩ := h
  cases rx
  cases ry
  obtain ⟨its, r1, p1, _⟩ := I.tuple ha
  obtain ⟨its2, r2, p2, _⟩ := I.tuple hb
  by_cases hx : xs = []
  · subst hx
    cases r1
    exact cat_tup0 p1 p2 ⟨.ref b, H, I, rfl, q0 rfl⟩
  · refine HT.cat_tup p1 p2 (fun z => hx (r1.nil_iff.mp z)) (fun z => ⟨.ref a, H, I, rfl, q1 hx (r2.nil_iff.mp z)⟩) (fun z => ?_) (by rw [← r1.length, ← r2.length]; exact hz)
    exact ⟨.ref s.heap.objs.size, _, Inv.layT (t' := s.toks) I (fun b u e => e) rfl (r1.append r2) (by rw [List.length_append]; exact hz), rfl, q2 hx (fun w => z (r2.nil_iff.mpr w)) _ _ (I.hok.fresh (Nat.le_refl _)) ⟨rfl, rfl⟩⟩
def rSlF (K : PySem.W.Frag) : V → Option Int → Option Int → Hp → VK → Prop := fun x lo hi H Q => ∃ a xs, x = .ref a ∧ SqT K H a xs ∧
  (HT.sIx xs.length 0 lo = 0 ∧ HT.sIx xs.length xs.length hi = xs.length → Q (.ref a) H) ∧ (¬ (HT.sIx xs.length 0 lo = 0 ∧ HT.sIx xs.length xs.length hi = xs.length) → ∀ p o, H p = none → TP o → Q (.ref p) (upd H p (.frz o (.tup (cutV xs lo hi)))))
theorem fsl_tup : SlR X (rSlF X.K) := by
  intro pins s σ H x v vl vu lo hi sl Q I rx hs pl pu h
  obtain ⟨a, xs, rfl, hx, q1, q2⟩ := h
  cases rx
  obtain ⟨its, r, ht, hz⟩ := I.tuple hx
  have hlen : its.toArray.size = xs.length := by rw [List.size_toArray]; exact r.length.symm
  refine ⟨"tuple", _, PyProof.Rows.slot_tuple_getitem.lookup, ht.typeIs, ?_⟩
  by_cases hw : HT.sIx xs.length 0 lo = 0 ∧ HT.sIx xs.length xs.length hi = xs.length
  · exact getItem_tuple_whole ht hs pl pu (by rw [hlen]; exact hw) ⟨.ref a, H, I, rfl, q1 hw⟩
  · refine HT.getItem_tuple_cut ht hs pl pu (by rw [hlen]; exact hw) ?_ (by rw [hlen]; exact hz)
    rw [hlen]
    exact ⟨.ref s.heap.objs.size, _, Inv.layT (t' := s.toks) I (fun b u e => e) rfl ((r.drop (HT.sIx xs.length 0 lo)).take (HT.sIx xs.length xs.length hi - HT.sIx xs.length 0 lo)) (Nat.le_trans (cutV_length xs lo hi) hz), rfl, q2 hw _ _ (I.hok.fresh (Nat.le_refl _)) ⟨rfl, rfl⟩⟩
end
end DL
end

section
namespace DL
open PySem
def fnD (x : Str) : D := .dict [(.str x, .none)]
def fnName : D → Option Str
  | .dict [(.str x, .none)] => some x
  | _ => none
end DL
end

section
namespace DL
open PySem PySem.Spec PyProof.Rows L2

theorem sqt_same {K : PySem.W.Frag} {H H' : Hp} {a : Addr} {xs : List V} (e : Same H H') (h : SqT K H a xs) : SqT K H' a xs := by
  rcases h with (h | ⟨o, h⟩) | h
  · exact .inl (.inl (e _ _ h))
  · exact .inl (.inr ⟨o, e _ _ h⟩)
  · exact .inr h
/-- data in the heap; a dict stands here for the law's script, which is only ever cut -/
def scrD (ns : List Int) : D := .dict ((.none, .none) :: ns.map fun n => (.int n, .none))
mutual
inductive Dq (K : PySem.W.Frag) (H : Hp) : V → D → Prop
  | non : Dq K H .non .none
  | bl (b : Bool) : Dq K H (.bl b) (.bool b)
  | int (i : Int) : Dq K H (.int i) (.int i)
  | str (x : Str) : Dq K H (.str x) (.str x)
  | lst {a : Addr} {xs : List V} {ds : List D} : H a = some (.lst xs) → DqAll K H xs ds → Dq K H (.ref a) (.list ds)
  | tup {a : Addr} {xs : List V} {ds : List D} : TupAt H a xs → DqAll K H xs ds → Dq K H (.ref a) (.tuple ds)
  | scr {a : Addr} {ns : List Int} {d : D} : SqL K H a (ns.map V.int) → d = scrD ns → Dq K H (.ref a) d
  | dic {a : Addr} : H a = some (.dK []) → Dq K H (.ref a) (.dict [])
  | fn {a : Addr} {x : Str} {d : D} : PySem.W.nsIn K mainGlobals x = some (some (.ref a)) → d = fnD x → Dq K H (.ref a) d
inductive DqAll (K : PySem.W.Frag) (H : Hp) : List V → List D → Prop
  | nil : DqAll K H [] []
  | cons {v : V} {vs : List V} {d : D} {ds : List D} : Dq K H v d → DqAll K H vs ds → DqAll K H (v :: vs) (d :: ds)
end
mutual
theorem dp_same {K : PySem.W.Frag} {H H' : Hp} (e : Same H H') : ∀ {v : V} {d : D}, Dq K H v d → Dq K H' v d
  | _, _, .non => .non
  | _, _, .bl b => .bl b
  | _, _, .int i => .int i
  | _, _, .str x => .str x
  | _, _, .lst s a => .lst (e _ _ s) (dpa_same e a)
  | _, _, .scr s h => .scr (e.seq s) h
  | _, _, .fn s h => .fn s h
  | _, _, .dic s => .dic (e _ _ s)
  | _, _, .tup s a => .tup (tup_same e s) (dpa_same e a)
theorem dpa_same {K : PySem.W.Frag} {H H' : Hp} (e : Same H H') : ∀ {vs : List V} {ds : List D}, DqAll K H vs ds → DqAll K H' vs ds
  | _, _, .nil => .nil
  | _, _, .cons h t => .cons (dp_same e h) (dpa_same e t)
end
theorem DqAll.length {K : PySem.W.Frag} {H : Hp} : ∀ {vs : List V} {ds : List D}, DqAll K H vs ds → vs.length = ds.length
  | _, _, .nil => rfl
  | _, _, .cons _ t => by simp [DqAll.length t]
theorem DqAll.get {K : PySem.W.Frag} {H : Hp} : ∀ {vs : List V} {ds : List D} {i : Nat} {d : D}, DqAll K H vs ds → ds[i]? = some d → ∃ v, vs[i]? = some v ∧ Dq K H v d
  | _, _, _, _, .nil, e => by simp at e
  | _, _, 0, _, .cons h _, e => by simp at e; subst e; exact ⟨_, rfl, h⟩
  | _, _, i + 1, _, .cons _ t, e => by
    obtain ⟨v, h1, h2⟩ := DqAll.get (i := i) t (by simpa using e)
    exact ⟨v, by simpa using h1, h2⟩
theorem DqAll.append {K : PySem.W.Frag} {H : Hp} : ∀ {vs ws : List V} {ds es : List D}, DqAll K H vs ds → DqAll K H ws es → DqAll K H (vs ++ ws) (ds ++ es)
  | _, _, _, _, .nil, s => s
  | _, _, _, _, .cons h t, s => .cons h (DqAll.append t s)
theorem DqAll.take {K : PySem.W.Frag} {H : Hp} : ∀ {vs : List V} {ds : List D} (n : Nat), DqAll K H vs ds → DqAll K H (vs.take n) (ds.take n)
  | _, _, 0, _ => by simpa using DqAll.nil
  | _, _, _ + 1, .nil => .nil
  | _, _, n + 1, .cons h t => .cons h (DqAll.take n t)
theorem DqAll.drop {K : PySem.W.Frag} {H : Hp} : ∀ {vs : List V} {ds : List D} (n : Nat), DqAll K H vs ds → DqAll K H (vs.drop n) (ds.drop n)
  | _, _, 0, h => by simpa using h
  | _, _, _ + 1, .nil => .nil
  | _, _, n + 1, .cons _ t => DqAll.drop n t
theorem DqAll.set {K : PySem.W.Frag} {H : Hp} {v : V} {d : D} (r : Dq K H v d) : ∀ {vs : List V} {ds : List D} (i : Nat), DqAll K H vs ds → DqAll K H (vs.set i v) (ds.set i d)
  | _, _, _, .nil => .nil
  | _, _, 0, .cons _ t => .cons r t
  | _, _, i + 1, .cons h t => .cons h (DqAll.set r i t)
theorem DqAll.eraseIdx {K : PySem.W.Frag} {H : Hp} : ∀ {vs : List V} {ds : List D} (i : Nat), DqAll K H vs ds → DqAll K H (vs.eraseIdx i) (ds.eraseIdx i)
  | _, _, _, .nil => .nil
  | _, _, 0, .cons _ t => t
  | _, _, i + 1, .cons h t => .cons h (DqAll.eraseIdx i t)
theorem DqAll.reverse {K : PySem.W.Frag} {H : Hp} {vs : List V} {ds : List D} (h : DqAll K H vs ds) : DqAll K H vs.reverse ds.reverse := by
  induction vs generalizing ds with
  | nil => cases h; exact .nil
  | cons v vs ih =>
    cases h with
    | cons h t =>
      rw [List.reverse_cons, List.reverse_cons]
      exact DqAll.append (ih t) (.cons h .nil)
theorem dp_list {K : PySem.W.Frag} {H : Hp} {v : V} {ds : List D} (h : Dq K H v (.list ds)) : ∃ a xs, v = .ref a ∧ H a = some (.lst xs) ∧ DqAll K H xs ds := by
  cases h with
  | lst s a => exact ⟨_, _, rfl, s, a⟩
  | scr s h => cases h
  | fn s h => cases h
theorem dp_tuple {K : PySem.W.Frag} {H : Hp} {v : V} {ds : List D} (h : Dq K H v (.tuple ds)) : ∃ a xs, v = .ref a ∧ TupAt H a xs ∧ DqAll K H xs ds := by
  cases h with
  | tup s a => exact ⟨_, _, rfl, s, a⟩
  | scr s h => cases h
  | fn s h => cases h
mutual
theorem dq_dp {K : PySem.W.Frag} {H : Hp} : ∀ {v : V} {d : D}, Dq K H v d → d.canLay0 = true → Dp K H v d
  | _, _, .non, _ => .non
  | _, _, .bl b, _ => .bl b
  | _, _, .int i, _ => .int i
  | _, _, .str x, _ => .str x
  | _, _, .lst s a, h => .lst (.inl (.inl s)) (dqa_dpa a (by simpa [PyData.canLay0] using h))
  | _, _, .tup s a, h => .tup s.sq (dqa_dpa a (by simpa [PyData.canLay0] using h))
  | _, _, .scr s e, h => by subst e; simp [scrD, PyData.canLay0] at h
  | _, _, .fn s e, h => by subst e; simp [fnD, PyData.canLay0] at h
  | _, _, .dic s, h => by simp [PyData.canLay0] at h
theorem dqa_dpa {K : PySem.W.Frag} {H : Hp} : ∀ {vs : List V} {ds : List D}, DqAll K H vs ds → PyData.canLayAll0 ds = true → DpAll K H vs ds
  | _, _, .nil, _ => .nil
  | _, _, .cons a t, h => by
    simp only [PyData.canLayAll0, Bool.and_eq_true] at h
    exact .cons (dq_dp a h.1) (dqa_dpa t h.2)
end
theorem dp_int {K : PySem.W.Frag} {H : Hp} {v : V} {i : Int} (h : Dq K H v (.int i)) : v = .int i := by
  cases h with
  | int => rfl
  | scr s h => cases h
  | fn s h => cases h
theorem dp_bl {K : PySem.W.Frag} {H : Hp} {v : V} {i : Bool} (h : Dq K H v (.bool i)) : v = .bl i := by
  cases h with
  | bl => rfl
  | scr s h => cases h
  | fn s h => cases h
theorem dp_str {K : PySem.W.Frag} {H : Hp} {v : V} {i : Str} (h : Dq K H v (.str i)) : v = .str i := by
  cases h with
  | str => rfl
  | scr s h => cases h
  | fn s h => cases h
abbrev KvR (K : PySem.W.Frag) (B : Hp) {κ : Type} : List (κ × V) → List (κ × D) → Prop := Paired fun p q => p.1 = q.1 ∧ Dq K B p.2 q.2
theorem kvr_same {K : PySem.W.Frag} {B B' : Hp} (e : Same B B') {κ : Type} : ∀ {l : List (κ × V)} {m : List (κ × D)}, KvR K B l m → KvR K B' l m
  | _, _, .nil => .nil
  | _, _, .cons h t => .cons ⟨h.1, dp_same e h.2⟩ (kvr_same e t)
/-- the lists at as hold the rows -/
def RowsAt (K : PySem.W.Frag) (B H : Hp) : List Addr → List (List D) → Prop := Paired fun a ds => ∃ vs, H a = some (.lst vs) ∧ DqAll K B vs ds
theorem rowsAt_same {K : PySem.W.Frag} {B H B' H' : Hp} (e : Same B B') : ∀ {as : List Addr} {rows : List (List D)}, RowsAt K B H as rows → (∀ a ∈ as, H' a = H a) → RowsAt K B' H' as rows
  | _, _, .nil, _ => .nil
  | _, _, .cons h t, k => .cons (by obtain ⟨vs, h1, h2⟩ := h; exact ⟨vs, by rw [k _ List.mem_cons_self]; exact h1, dpa_same e h2⟩) (rowsAt_same e t fun a ha => k a (List.mem_cons_of_mem _ ha))
theorem rowsAt_some {K : PySem.W.Frag} {B H : Hp} : ∀ {as : List Addr} {rows : List (List D)}, RowsAt K B H as rows → ∀ a ∈ as, H a ≠ none
  | _, _, .nil, a, h => by cases h
  | _, _, .cons h t, a, ha => by
    rcases List.mem_cons.mp ha with rfl | ha
    · obtain ⟨vs, h1, _⟩ := h; rw [h1]; simp
    · exact rowsAt_some t a ha
/-- the entries of a dict of lists -/
def dlV (kvs : List (Ky × List D)) (as : List Addr) : List (Ky × V) := List.zipWith (fun kv a => (kv.1, V.ref a)) kvs as
theorem dlV_inj : ∀ {kvs : List (Ky × List D)} {as bs : List Addr}, as.length = kvs.length → bs.length = kvs.length → dlV kvs as = dlV kvs bs → as = bs
  | [], [], [], _, _, _ => rfl
  | [], _ :: _, _, h, _, _ => by simp at h
  | [], _, _ :: _, _, h, _ => by simp at h
  | _ :: _, [], _, h, _, _ => by simp at h
  | _ :: _, _, [], _, h, _ => by simp at h
  | kv :: kvs, a :: as, b :: bs, h1, h2, h => by
    simp only [dlV, List.zipWith_cons_cons, List.cons.injEq, Prod.mk.injEq, V.ref.injEq, true_and] at h
    rw [h.1, dlV_inj (kvs := kvs) (by simpa using h1) (by simpa using h2) h.2]
/-- the hash of a tuple of whole numbers; a dict with such keys; its entries as the slots' meanings -/
def tHash (ks : List Int) : Int := reduceHash (Builtin.Tuple.tupleHashOf (ks.map hashInt))
def DTob (l : Addr) (xs : List (List Int × Addr × Value)) (h : Heap) : Prop :=
  ∃ o es ep, h.get? l = some o ∧ o.ExactDict ∧ o.data = .dict es ep ∧ es.toList = xs.map fun x => (⟨tHash x.1, .ref x.2.1, x.2.2⟩ : DictEntry)
def DTo (l : Addr) (xs : List (List Int × Addr × Value)) : HO := .ext (DTob l xs)
def TkP (K : PySem.W.Frag) (B : Hp) : List (List Int × Addr × Value) → List (List Ky × D) → Prop :=
  Paired fun x kv => kv.1 = x.1.map Sum.inl ∧ TupAt B x.2.1 (x.1.map V.int) ∧ ∃ v, RelV v x.2.2 ∧ Dq K B v kv.2
def TkR (K : PySem.W.Frag) (B : Hp) (l : Addr) (xs : List (List Int × Addr × Value)) (kvs : List (List Ky × D)) : Prop :=
  (l == sysModules) = false ∧ xs.length ≤ sizeLine ∧ (xs.map (·.1)).Nodup ∧ TkP K B xs kvs
theorem tkp_same {K : PySem.W.Frag} {B B' : Hp} (e : Same B B') : ∀ {xs : List (List Int × Addr × Value)} {kvs : List (List Ky × D)}, TkP K B xs kvs → TkP K B' xs kvs
  | _, _, .nil => .nil
  | _, _, .cons h t => .cons (by obtain ⟨h1, h2, v, h3, h4⟩ := h; exact ⟨h1, tup_same e h2, v, h3, dp_same e h4⟩) (tkp_same e t)
theorem tkr_same {K : PySem.W.Frag} {B B' : Hp} (e : Same B B') {l : Addr} {xs : List (List Int × Addr × Value)} {kvs : List (List Ky × D)} (h : TkR K B l xs kvs) : TkR K B' l xs kvs := ⟨h.1, h.2.1, h.2.2.1, tkp_same e h.2.2.2⟩
/-- the object c stands at l; F: all addresses that are owned by it -/
def OwnR (K : PySem.W.Frag) (B H : Hp) : Ct → Addr → List Addr → Prop
  | .lst ds, l, F => F = [l] ∧ ∃ vs, H l = some (.lst vs) ∧ DqAll K B vs ds
  | .dK kvs, l, F => F = [l] ∧ ∃ vs, H l = some (.dK vs) ∧ KvR K B vs kvs
  | .dT kvs, l, F => F = [l] ∧ ∃ xs, H l = some (DTo l xs) ∧ TkR K B l xs kvs
  | .ll rows, l, F => ∃ as : List Addr, F = l :: as ∧ H l = some (.lst (as.map V.ref)) ∧ (l :: as).Nodup ∧ RowsAt K B H as rows
  | .dl kvs, l, F => ∃ as : List Addr, F = l :: as ∧ H l = some (.dK (dlV kvs as)) ∧ (l :: as).Nodup ∧ RowsAt K B H as (kvs.map (·.2))
theorem rowsAt_len {K : PySem.W.Frag} {B H : Hp} {as : List Addr} {rows : List (List D)} (h : RowsAt K B H as rows) : as.length = rows.length := Paired.length h
theorem ref_inj : ∀ {as bs : List Addr}, as.map V.ref = bs.map V.ref → as = bs
  | [], [], _ => rfl
  | [], _ :: _, h => by cases h
  | _ :: _, [], h => by cases h
  | a :: as, b :: bs, h => by
    simp only [List.map_cons, List.cons.injEq, V.ref.injEq] at h
    rw [h.1, ref_inj h.2]
theorem ownR_mem {K : PySem.W.Frag} {B H : Hp} {c : Ct} {l : Addr} {F : List Addr} (h : OwnR K B H c l F) : l ∈ F := by
  cases c with
  | ll rows => obtain ⟨as, rfl, _⟩ := h; simp
  | dl rows => obtain ⟨as, rfl, _⟩ := h; simp
  | _ => (obtain ⟨rfl, _⟩ := h; simp)
theorem ownR_some {K : PySem.W.Frag} {B H : Hp} {c : Ct} {l : Addr} {F : List Addr} (h : OwnR K B H c l F) : ∀ a ∈ F, H a ≠ none := by
  cases c with
  | ll rows =>
    obtain ⟨as, rfl, e, _, r⟩ := h
    intro a ha
    rcases List.mem_cons.mp ha with rfl | ha
    · rw [e]; simp
    · exact rowsAt_some r a ha
  | dl rows =>
    obtain ⟨as, rfl, e, _, r⟩ := h
    intro a ha
    rcases List.mem_cons.mp ha with rfl | ha
    · rw [e]; simp
    · exact rowsAt_some r a ha
  | _ => (obtain ⟨rfl, vs, e, _⟩ := h; intro a ha; simp at ha; subst ha; rw [e]; simp)
theorem ownR_same {K : PySem.W.Frag} {B H B' H' : Hp} {c : Ct} {l : Addr} {F : List Addr} (h : OwnR K B H c l F) (e : Same B B') (k : ∀ a ∈ F, H' a = H a) : OwnR K B' H' c l F := by
  cases c with
  | lst ds => obtain ⟨rfl, vs, e1, r⟩ := h; exact ⟨rfl, vs, by rw [k l (by simp)]; exact e1, dpa_same e r⟩
  | dK ds => obtain ⟨rfl, vs, e1, r⟩ := h; exact ⟨rfl, vs, by rw [k l (by simp)]; exact e1, kvr_same e r⟩
  | dT ds => obtain ⟨rfl, vs, e1, r⟩ := h; exact ⟨rfl, vs, by rw [k l (by simp)]; exact e1, tkr_same e r⟩
  | ll rows => obtain ⟨as, rfl, e1, nd, r⟩ := h; exact ⟨as, rfl, by rw [k l (by simp)]; exact e1, nd, rowsAt_same e r fun a ha => k a (by simp [ha])⟩
  | dl rows => obtain ⟨as, rfl, e1, nd, r⟩ := h; exact ⟨as, rfl, by rw [k l (by simp)]; exact e1, nd, rowsAt_same e r fun a ha => k a (by simp [ha])⟩
theorem ownR_uniq {K : PySem.W.Frag} {B H B' H' : Hp} {c : Ct} {l : Addr} {F F' : List Addr} (h : OwnR K B H c l F) (h' : OwnR K B' H' c l F') (k : ∀ a ∈ F, H' a = H a) : F' = F := by
  cases c with
  | ll rows =>
    obtain ⟨as, rfl, e1, _⟩ := h
    obtain ⟨as', rfl, e1', _⟩ := h'
    rw [k l (by simp), e1] at e1'
    have := HO.lst.inj (Option.some.inj e1')
    rw [ref_inj this]
  | dl rows =>
    obtain ⟨as, rfl, e1, _, r⟩ := h
    obtain ⟨as', rfl, e1', _, r'⟩ := h'
    rw [k l (by simp), e1] at e1'
    have := HO.dK.inj (Option.some.inj e1')
    rw [dlV_inj (by simpa using rowsAt_len r) (by simpa using rowsAt_len r') this]
  | _ => (obtain ⟨rfl, _⟩ := h; obtain ⟨rfl, _⟩ := h'; rfl)

/-- the slots' meaning: B: what stands still; O: what is owned -/
structure Con0 (K : PySem.W.Frag) (B H : Hp) (σ : L2.St) (r : Ro) (O : Addr → Prop) : Prop where
  sub : Same B H
  off : ∀ a, O a → B a = none
  liv : ∀ a, O a → H a ≠ none
  len : r.length = σ.length
  frz : ∀ (i : Nat) b d, r[i]? = some (Sl.frz b d) → ∃ v, σ[i]? = some (some v) ∧ Dq K B v d
  own : ∀ (i : Nat) b c, r[i]? = some (Sl.own b c) → ∃ l F, σ[i]? = some (some (V.ref l)) ∧ OwnR K B H c l F ∧ ∀ a ∈ F, O a
  sep : ∀ (i j : Nat) b c b' c' l l' F F', i ≠ j → r[i]? = some (Sl.own b c) → r[j]? = some (Sl.own b' c') → σ[i]? = some (some (V.ref l)) → σ[j]? = some (some (V.ref l')) →
    OwnR K B H c l F → OwnR K B H c' l' F' → ∀ a ∈ F, a ∉ F'
/-- slots that look into a list of lists -/
def Al (H : Hp) (σ : L2.St) (r : Ro) : Prop := ∀ (i j k : Nat), r[i]? = some (Sl.al j k) → ∀ b rows l (as : List Addr), r[j]? = some (Sl.own b (.ll rows)) → σ[j]? = some (some (V.ref l)) → H l = some (.lst (as.map V.ref)) →
  ∃ a, as[k]? = some a ∧ σ[i]? = some (some (V.ref a))
structure Con (K : PySem.W.Frag) (B H : Hp) (σ : L2.St) (r : Ro) (O : Addr → Prop) : Prop extends Con0 K B H σ r O where
  al : Al H σ r
/-- from one state to a later one -/
structure Step (B H : Hp) (O : Addr → Prop) (B' H' : Hp) (O' : Addr → Prop) : Prop where
  sB : Same B B'
  keep : ∀ a o, H a = some o → ¬ O a → H' a = some o
  live : ∀ a, H a ≠ none → H' a ≠ none
  nB : ∀ a, H a ≠ none → ¬ O a → B a = none → B' a = none
  nO : ∀ a, O' a → O a ∨ H a = none
theorem Step.refl {B H : Hp} {O : Addr → Prop} : Step B H O B H O := ⟨Same.refl _, fun _ _ h _ => h, fun _ h => h, fun _ _ _ h => h, fun _ h => .inl h⟩
theorem Step.trans {B H B1 H1 B2 H2 : Hp} {O O1 O2 : Addr → Prop} (s : Step B H O B1 H1 O1) (t : Step B1 H1 O1 B2 H2 O2) : Step B H O B2 H2 O2 := by
  have no1 : ∀ a, H a ≠ none → ¬ O a → ¬ O1 a := fun a h n h1 => (s.nO a h1).elim n h
  refine ⟨s.sB.trans t.sB, fun a o h n => t.keep a o (s.keep a o h n) (no1 a (by rw [h]; simp) n), fun a h => t.live a (s.live a h), fun a h n b => t.nB a (s.live a h) (no1 a h n) (s.nB a h n b), fun a h => ?_⟩
  rcases t.nO a h with h | h
  · exact s.nO a h
  · by_cases q : H a = none
    · exact .inr q
    · exact absurd h (s.live a q)
/-- a lent parameter's slot stays -/
def pinned : Sl → Bool
  | .frz b _ => b
  | .own b _ => b
  | .non => false
  | .al _ _ => false
def Bor (r : Ro) (σ : L2.St) (r' : Ro) (σ' : L2.St) : Prop := ∀ (i : Nat) (x : Sl), r[i]? = some x → pinned x = true → (∃ y, r'[i]? = some y ∧ pinned y = true) ∧ σ'[i]? = σ[i]?
theorem Bor.refl {r : Ro} {σ : L2.St} : Bor r σ r σ := fun _ x h p => ⟨⟨x, h, p⟩, rfl⟩
theorem Bor.trans {r r1 r2 : Ro} {σ σ1 σ2 : L2.St} (a : Bor r σ r1 σ1) (b : Bor r1 σ1 r2 σ2) : Bor r σ r2 σ2 := fun i x h p => by
  obtain ⟨⟨y, h1, p1⟩, e1⟩ := a i x h p
  obtain ⟨z, e2⟩ := b i y h1 p1
  exact ⟨z, e2.trans e1⟩

section
variable {K : PySem.W.Frag} {B H B' H' : Hp} {σ : L2.St} {r : Ro} {O O' : Addr → Prop}
/-- nothing that is owned was touched -/
theorem Con0.mono (c : Con0 K B H σ r O) (sB : Same B B') (sH : Same B' H') (k : ∀ a, O a → H' a = H a) (off : ∀ a, O a → B' a = none) : Con0 K B' H' σ r O := by
  refine ⟨sH, off, fun a h => by rw [k a h]; exact c.liv a h, c.len, fun i b d e => ?_, fun i b ct e => ?_, fun i j b c1 b' c2 l l' F F' ne e1 e2 s1 s2 o1 o2 => ?_⟩
  · obtain ⟨v, h1, h2⟩ := c.frz i b d e
    exact ⟨v, h1, dp_same sB h2⟩
  · obtain ⟨l, F, h1, h2, h3⟩ := c.own i b ct e
    exact ⟨l, F, h1, ownR_same h2 sB fun a ha => k a (h3 a ha), h3⟩
  · obtain ⟨m, G, g1, g2, g3⟩ := c.own i b c1 e1
    obtain ⟨m', G', g1', g2', g3'⟩ := c.own j b' c2 e2
    rw [s1] at g1; cases g1
    rw [s2] at g1'; cases g1'
    rw [ownR_uniq g2 o1 fun a ha => k a (g3 a ha), ownR_uniq g2' o2 fun a ha => k a (g3' a ha)]
    exact c.sep i j b c1 b' c2 _ _ _ _ ne e1 e2 s1 s2 g2 g2'
theorem Con.mono (c : Con K B H σ r O) (sB : Same B B') (sH : Same B' H') (k : ∀ a, O a → H' a = H a) (off : ∀ a, O a → B' a = none) : Con K B' H' σ r O :=
  ⟨c.toCon0.mono sB sH k off, fun i j kk h b rows l as h1 h2 h3 => by
    obtain ⟨l0, F, g1, g2, g3⟩ := c.own j b _ h1
    rw [h2] at g1; cases g1
    rw [k _ (g3 _ (ownR_mem g2))] at h3
    exact c.al i j kk h b rows _ as h1 h2 h3⟩
/-- a value's result in the heap; H: the heap at the start -/
def RvR (K : PySem.W.Frag) (H B' H' : Hp) (O' : Addr → Prop) : RV → V → Prop
  | .val d, v => Dq K B' v d
  | .new c, v => ∃ l F, v = .ref l ∧ OwnR K B' H' c l F ∧ ∀ a ∈ F, H a = none ∧ B' a = none ∧ ¬ O' a
def AvR (K : PySem.W.Frag) (B' : Hp) (σ : L2.St) : AV → V → Prop
  | .val d, v => Dq K B' v d
  | .slot i, v => σ[i]? = some (some v)
theorem AvR.same {a : AV} {v : V} (e : Same B B') (h : AvR K B σ a v) : AvR K B' σ a v := by
  cases a with
  | val d => exact dp_same e h
  | slot i => exact h
/-- an operand looked at, in the heap -/
def RsR (K : PySem.W.Frag) (B H : Hp) : Rs → V → Prop
  | .fz d, v => Dq K B v d
  | .ow c, v => ∃ l F, v = .ref l ∧ OwnR K B H c l F
theorem paired_at {α β : Type} {F : α → β → Prop} : ∀ {l : List α} {m : List β} {k : Nat} {y : β}, Paired F l m → m[k]? = some y → ∃ x, l[k]? = some x ∧ F x y
  | _, _, _, _, .nil, e => by simp at e
  | _, _, 0, x, .cons h t, e => by simp at e; subst e; exact ⟨_, rfl, h⟩
  | _, _, k + 1, x, .cons h t, e => by
    obtain ⟨y, h1, h2⟩ := paired_at (k := k) t (by simpa using e)
    exact ⟨y, by simpa using h1, h2⟩
theorem Con.look2_ (c : Con K B H σ r O) {a : AV} {x : Rs} {v : V} (h : look2 r a = some x) (e : AvR K B σ a v) : RsR K B H x v := by
  cases a with
  | val d => cases h; exact e
  | slot i =>
    simp only [DL.look2] at h
    split at h
    · rename_i b d q
      cases h
      obtain ⟨v', h1, h2⟩ := c.frz i b d q
      rw [show σ[i]? = some (some v) from e] at h1; cases h1
      exact h2
    · rename_i b ct q
      cases h
      obtain ⟨l, F, h1, h2, h3⟩ := c.own i b ct q
      rw [show σ[i]? = some (some v) from e] at h1; cases h1
      exact ⟨l, F, rfl, h2⟩
    · rename_i j k q
      split at h
      · rename_i b rows q2
        cases q3 : rows[k]? with
        | none => rw [q3] at h; cases h
        | some ds =>
          rw [q3] at h
          cases h
          obtain ⟨l, F, h1, ⟨as, rfl, h2, nd, ra⟩, h3⟩ := c.own j b _ q2
          obtain ⟨a, g1, g2⟩ := c.al i j k q b rows l as q2 h1 h2
          rw [show σ[i]? = some (some v) from e] at g2; cases g2
          obtain ⟨a', g3, vs, g4, g5⟩ := paired_at ra q3
          rw [g1] at g3; cases g3
          exact ⟨_, _, rfl, rfl, vs, g4, g5⟩
      · cases h
    · cases h
theorem Con.looks2_ (c : Con K B H σ r O) : ∀ {as : List AV} {xs : List Rs} {vs : List V}, looks2 r as = some xs → Paired (AvR K B σ) as vs → Paired (RsR K B H) xs vs
  | [], xs, vs, h, e => by
    cases h; cases e; exact .nil
  | a :: as, xs, vs, h, e => by
    cases e with
    | cons e1 e2 =>
      simp only [DL.looks2] at h
      split at h
      · rename_i x ys h1 h2
        cases h
        exact .cons (c.look2_ h1 e1) (Con.looks2_ c h2 e2)
      · cases h
theorem Con.look (c : Con K B H σ r O) {a : AV} {x : Rs} {v : V} (h : look r a = some x) (e : AvR K B σ a v) : RsR K B H x v := by
  cases a with
  | val d => cases h; exact e
  | slot i =>
    simp only [DL.look] at h
    split at h
    · rename_i b d q
      cases h
      obtain ⟨v', h1, h2⟩ := c.frz i b d q
      rw [show σ[i]? = some (some v) from e] at h1; cases h1
      exact h2
    · rename_i b ct q
      cases h
      obtain ⟨l, F, h1, h2, h3⟩ := c.own i b ct q
      rw [show σ[i]? = some (some v) from e] at h1; cases h1
      exact ⟨l, F, rfl, h2⟩
    · cases h
theorem Con.looks (c : Con K B H σ r O) : ∀ {as : List AV} {xs : List Rs} {vs : List V}, looks r as = some xs → Paired (AvR K B σ) as vs → Paired (RsR K B H) xs vs
  | [], xs, vs, h, e => by
    cases h; cases e; exact .nil
  | a :: as, xs, vs, h, e => by
    cases e with
    | cons e1 e2 =>
      simp only [DL.looks] at h
      split at h
      · rename_i x ys h1 h2
        cases h
        exact .cons (c.look h1 e1) (Con.looks c h2 e2)
      · cases h
/-- what an operation lays -/
def Alc (K : PySem.W.Frag) (B H H' : Hp) : RV → V → Prop
  | .val d, v => (H' = H ∧ Dq K B v d) ∨ (∃ p vs ds o, H p = none ∧ TP o ∧ H' = upd H p (.frz o (.tup vs)) ∧ d = .tuple ds ∧ DqAll K B vs ds ∧ v = .ref p)
  | .new (.lst ds), v => ∃ p vs, H p = none ∧ H' = upd H p (.lst vs) ∧ DqAll K B vs ds ∧ v = .ref p
  | .new (.dK kvs), v => ∃ p vs, H p = none ∧ H' = upd H p (.dK vs) ∧ KvR K B vs kvs ∧ v = .ref p
  | .new (.dT kvs), v => ∃ p xs, H p = none ∧ H' = upd H p (DTo p xs) ∧ TkR K B p xs kvs ∧ v = .ref p
  | .new (.ll _), _ => False
  | .new (.dl _), _ => False
theorem same_new {p : Addr} {o : HO} (h : H p = none) : Same H (upd H p o) := fun b x e => by
  rw [upd_ne (ne_of_none e h)]; exact e
theorem Con.lay (c : Con K B H σ r O) {p : Addr} {o : HO} (hp : H p = none) : B p = none ∧ ¬ O p ∧ Con K B (upd H p o) σ r O ∧ Step B H O B (upd H p o) O := by
  have bp : B p = none := c.sub.free hp
  have np : ¬ O p := fun h => c.liv p h hp
  refine ⟨bp, np, c.mono (Same.refl _) (c.sub.trans (same_new hp)) (fun a h => ?_) c.off, ⟨Same.refl _, fun a o h _ => same_new hp _ _ h, fun a h => ?_, fun a _ _ h => h, fun a h => .inl h⟩⟩
  · rw [upd_ne (show a ≠ p from fun e => np (by rw [← e]; exact h))]
  · by_cases e : a = p
    · subst e; exact absurd hp h
    · rw [upd_ne e]; exact h
/-- a new object that stands still -/
theorem Con.layF (c : Con K B H σ r O) {p : Addr} {o : HO} (hp : H p = none) : Con K (upd B p o) (upd H p o) σ r O ∧ Step B H O (upd B p o) (upd H p o) O := by
  obtain ⟨bp, np, c1, s1⟩ := c.lay (o := o) hp
  have off : ∀ a, O a → upd B p o a = none := fun a h => by
    rw [upd_ne (show a ≠ p from fun e => np (by rw [← e]; exact h))]; exact c.off a h
  refine ⟨c1.mono (same_new bp) (fun a x h => ?_) (fun _ _ => rfl) off, ⟨same_new bp, s1.keep, s1.live, fun a h1 h2 h3 => ?_, s1.nO⟩⟩
  · by_cases e : a = p
    · subst e; rw [upd_same] at h ⊢; exact h
    · rw [upd_ne e] at h ⊢; exact c.sub a x h
  · rw [upd_ne (show a ≠ p from fun e => h1 (by rw [e]; exact hp))]; exact h3
theorem Con.alc (c : Con K B H σ r O) {x : RV} {v : V} (h : Alc K B H H' x v) : ∃ B', Step B H O B' H' O ∧ Con K B' H' σ r O ∧ RvR K H B' H' O x v := by
  cases x with
  | val d =>
    rcases h with ⟨rfl, h⟩ | ⟨p, vs, ds, o, hp, ht, rfl, rfl, h, rfl⟩
    · exact ⟨B, .refl, c, h⟩
    · obtain ⟨c1, s1⟩ := c.layF (o := .frz o (.tup vs)) hp
      exact ⟨_, s1, c1, .tup (tupAt_new ht) (dpa_same s1.sB h)⟩
  | new ct =>
    cases ct with
    | lst ds =>
      obtain ⟨p, vs, hp, rfl, h, rfl⟩ := h
      obtain ⟨bp, np, c1, s1⟩ := c.lay (o := .lst vs) hp
      exact ⟨B, s1, c1, p, [p], rfl, ⟨rfl, vs, upd_same, h⟩, fun a ha => by simp at ha; subst ha; exact ⟨hp, bp, np⟩⟩
    | dK kvs =>
      obtain ⟨p, vs, hp, rfl, h, rfl⟩ := h
      obtain ⟨bp, np, c1, s1⟩ := c.lay (o := .dK vs) hp
      exact ⟨B, s1, c1, p, [p], rfl, ⟨rfl, vs, upd_same, h⟩, fun a ha => by simp at ha; subst ha; exact ⟨hp, bp, np⟩⟩
    | dT kvs =>
      obtain ⟨p, vs, hp, rfl, h, rfl⟩ := h
      obtain ⟨bp, np, c1, s1⟩ := c.lay (o := DTo p vs) hp
      exact ⟨B, s1, c1, p, [p], rfl, ⟨rfl, vs, upd_same, h⟩, fun a ha => by simp at ha; subst ha; exact ⟨hp, bp, np⟩⟩
    | ll rows => exact h.elim
    | dl rows => exact h.elim
/-- an unowned list stands still from now on -/
theorem Con.still (c : Con K B H σ r O) {p : Addr} {o : HO} (hp : H p = some o) (bp : B p = none) (np : ¬ O p) : Con K (upd B p o) H σ r O := by
  refine c.mono (same_new bp) (fun a x h => ?_) (fun _ _ => rfl) fun a h => by rw [upd_ne (show a ≠ p from fun e => np (by rw [← e]; exact h))]; exact c.off a h
  by_cases e : a = p
  · subst e; rw [upd_same] at h; cases h; exact hp
  · rw [upd_ne e] at h; exact c.sub a x h
/-- a new result stands still from now on: its data -/
theorem Con.frozen (c : Con K B' H' σ r O') {x : RV} {d : D} {v : V} (s : Step B H O B' H' O') (h : RvR K H B' H' O' x v) (e : x.data = some d) : ∃ B2, Step B H O B2 H' O' ∧ Con K B2 H' σ r O' ∧ Dq K B2 v d ∧ Same B' B2 := by
  cases x with
  | val d' => cases e; exact ⟨B', s, c, h, Same.refl _⟩
  | new ct =>
    cases ct with
    | lst ds =>
      cases e
      obtain ⟨l, F, rfl, ⟨rfl, vs, e1, h1⟩, h2⟩ := h
      obtain ⟨n1, n2, n3⟩ := h2 l (by simp)
      have c2 := c.still e1 n2 n3
      refine ⟨_, ⟨s.sB.trans (same_new n2), s.keep, s.live, fun a q1 q2 q3 => ?_, s.nO⟩, c2, .lst upd_same (dpa_same (same_new n2) h1), same_new n2⟩
      rw [upd_ne (show a ≠ l from fun e => q1 (by rw [e]; exact n1))]
      exact s.nB a q1 q2 q3
    | dK _ => cases e
    | dT _ => cases e
    | ll _ => cases e
    | dl _ => cases e
end

/-- how an exception lies: its class -/
def XnR (K : PySem.W.Frag) (mg : Str → Option Value) (x : Exn) (cls : Value) (dx : Option Addr) (H : Hp) : Prop :=
  ∃ C, mg (Str.ofString x.cls) = some (.ref C) ∧ cls = .ref C ∧ match x.row with
    | none => dx = none
    | some n => ∃ d, dx = some d ∧ H d = some (.xd [("row", .int n)])
/-- where meanings are read: the written part, the module's names, what is wanted of an exception -/
structure Ct2 where
  K : PySem.W.Frag
  mg : Str → Option Value
abbrev Rl (α β : Type) := Hp → Hp → Hp → (Addr → Prop) → L2.St → α → β → Prop
/-- m from the state (B, r, O), with an end -/
def At {α β : Type} (G : Ct2) (W : WX) (m : M α) (R : Rl α β) (B : Hp) (r : Ro) (O : Addr → Prop) (σ : L2.St) (H : Hp) (Q : β → Hp → Prop) : Prop :=
  Con G.K B H σ r O ∧ ∃ o r', m r = some (o, r') ∧ match o with
    | .ok a => ∀ B' H' O' y, Step B H O B' H' O' → Con G.K B' H' σ r' O' → Bor r σ r' σ → R H B' H' O' σ a y → Q y H'
    | .exc x => ∀ B' H' O' c dx, Step B H O B' H' O' → Con G.K B' H' σ r' O' → Bor r σ r' σ → XnR G.K G.mg x c dx H' → W c dx σ H'
def tG {α β : Type} (G : Ct2) (W : WX) (m : M α) (R : Rl α β) (σ : L2.St) (H : Hp) (Q : β → Hp → Prop) : Prop := ∃ B r O, At G W m R B r O σ H Q
/-- a later start does -/
def Later {α β : Type} (R : Rl α β) : Prop := ∀ H H1 B' H' O' σ a y, (∀ p, H p ≠ none → H1 p ≠ none) → R H1 B' H' O' σ a y → R H B' H' O' σ a y
def rV (G : Ct2) : Rl RV V := fun H B' H' O' _ x v => RvR G.K H B' H' O' x v
def rA (G : Ct2) : Rl AV V := fun _ B' _ _ σ a v => AvR G.K B' σ a v
def rL (G : Ct2) : Rl (List AV) (List V) := fun _ B' _ _ σ as vs => Paired (AvR G.K B' σ) as vs
def rB : Rl Bool Bool := fun _ _ _ _ _ a b => a = b
theorem later_rV {G : Ct2} : Later (rV G) := fun H H1 B' H' O' σ a y k h => by
  cases a with
  | val d => exact h
  | new c =>
    obtain ⟨l, F, e, o, h⟩ := h
    refine ⟨l, F, e, o, fun a ha => ⟨?_, (h a ha).2⟩⟩
    by_cases q : H a = none
    · exact q
    · exact absurd (h a ha).1 (k a q)
theorem later_rL {G : Ct2} : Later (rL G) := fun _ _ _ _ _ _ _ _ _ h => h
theorem later_rB : Later rB := fun _ _ _ _ _ _ _ _ _ h => h
section
variable {G : Ct2} {W : WX} {α β γ δ : Type} {m : M α} {f : α → M γ} {R : Rl α β} {R2 : Rl γ δ} {B : Hp} {r : Ro} {O : Addr → Prop} {σ : L2.St} {H : Hp}
theorem At.mono {Q Q' : β → Hp → Prop} (h : At G W m R B r O σ H Q) (q : ∀ y H', Q y H' → Q' y H') : At G W m R B r O σ H Q' := by
  obtain ⟨c, o, r', e, p⟩ := h
  refine ⟨c, o, r', e, ?_⟩
  cases o with
  | ok a => exact fun B' H' O' y s c b x => q _ _ (p B' H' O' y s c b x)
  | exc x => exact p
theorem tG.of {Q : β → Hp → Prop} (h : At G W m R B r O σ H Q) : tG G W m R σ H Q := ⟨B, r, O, h⟩
/-- the first of two -/
theorem At.bind {Q : δ → Hp → Prop} (h : At G W (m.bind f) R2 B r O σ H Q) (hl : Later R2) :
    At G W m R B r O σ H fun y H1 => ∃ a B1 r1 O1, Step B H O B1 H1 O1 ∧ R H B1 H1 O1 σ a y ∧ At G W (f a) R2 B1 r1 O1 σ H1 Q := by
  obtain ⟨c, o, r', e, p⟩ := h
  refine ⟨c, ?_⟩
  unfold M.bind at e
  cases q : m r with
  | none => rw [q] at e; cases e
  | some z =>
    obtain ⟨o1, r1⟩ := z
    rw [q] at e
    refine ⟨o1, r1, rfl, ?_⟩
    cases o1 with
    | exc x =>
      cases e
      exact p
    | ok a =>
      intro B1 H1 O1 y s1 c1 b1 x1
      refine ⟨a, B1, r1, O1, s1, x1, c1, o, r', e, ?_⟩
      cases o with
      | ok a2 => exact fun B2 H2 O2 y2 s2 c2 b2 x2 => p B2 H2 O2 y2 (s1.trans s2) c2 (b1.trans b2) (hl H H1 _ _ _ _ _ _ s1.live x2)
      | exc x => exact fun B2 H2 O2 c2 dx s2 k2 b2 x2 => p B2 H2 O2 c2 dx (s1.trans s2) k2 (b1.trans b2) x2
theorem At.ret {a : α} {Q : β → Hp → Prop} (h : At G W (M.ret a) R B r O σ H Q) {y : β} (x : R H B H O σ a y) : Q y H := by
  obtain ⟨c, o, r', e, p⟩ := h
  cases e
  exact p B H O y .refl c .refl x
theorem At.con {Q : β → Hp → Prop} (h : At G W m R B r O σ H Q) : Con G.K B H σ r O := h.1
end
end DL
end

section
namespace DL
open PySem PySem.Spec PyProof.Rows L2

theorem get_set {α : Type} {l : List α} {i j : Nat} {x y : α} (h : (l.set i x)[j]? = some y) : (j = i ∧ y = x) ∨ (j ≠ i ∧ l[j]? = some y) := by
  by_cases e : j = i
  · subst e
    by_cases hl : j < l.length
    · rw [List.getElem?_set_self hl] at h; cases h; exact .inl ⟨rfl, rfl⟩
    · rw [List.getElem?_eq_none (by rw [List.length_set]; omega)] at h; cases h
  · rw [List.getElem?_set_ne (Ne.symm e)] at h; exact .inr ⟨e, h⟩

section
variable {K : PySem.W.Frag} {B H B' H' : Hp} {σ σ' : L2.St} {r : Ro} {O O' : Addr → Prop}
/-- slot i is told anew -/
theorem Con0.replace (c : Con0 K B H σ r O) {i : Nat} {x : Sl} (hl : σ'.length = σ.length) (hs : ∀ j, j ≠ i → σ'[j]? = σ[j]?)
    (hx : match x with
      | .non => True
      | .al _ _ => True
      | .frz _ d => ∃ v, σ'[i]? = some (some v) ∧ Dq K B v d
      | .own _ ct => ∃ l F, σ'[i]? = some (some (V.ref l)) ∧ OwnR K B H ct l F ∧ (∀ a ∈ F, O a) ∧ ∀ (j : Nat) b' c' l' F', j ≠ i → r[j]? = some (Sl.own b' c') → σ[j]? = some (some (V.ref l')) → OwnR K B H c' l' F' → ∀ a ∈ F, a ∉ F') :
    Con0 K B H σ' (r.set i x) O := by
  refine ⟨c.sub, c.off, c.liv, by rw [List.length_set, c.len, hl], fun j b d e => ?_, fun j b ct e => ?_, fun j k b c1 b' c2 l l' F F' ne e1 e2 s1 s2 o1 o2 => ?_⟩
  · rcases get_set e with ⟨rfl, rfl⟩ | ⟨n, e⟩
    · exact hx
    · rw [hs j n]; exact c.frz j b d e
  · rcases get_set e with ⟨rfl, rfl⟩ | ⟨n, e⟩
    · obtain ⟨l, F, h1, h2, h3, _⟩ := hx
      exact ⟨l, F, h1, h2, h3⟩
    · rw [hs j n]; exact c.own j b ct e
  · rcases get_set e1 with ⟨rfl, rfl⟩ | ⟨n1, f1⟩
    · rcases get_set e2 with ⟨rfl, _⟩ | ⟨n2, f2⟩
      · exact absurd rfl ne
      · obtain ⟨m, G, g1, g2, g3, g4⟩ := hx
        rw [s1] at g1; cases g1
        rw [hs k n2] at s2
        rw [ownR_uniq g2 o1 fun a _ => rfl]
        exact g4 k b' c2 l' F' n2 f2 s2 o2
    · rcases get_set e2 with ⟨rfl, rfl⟩ | ⟨n2, f2⟩
      · obtain ⟨m, G, g1, g2, g3, g4⟩ := hx
        rw [s2] at g1; cases g1
        rw [hs j n1] at s1
        rw [ownR_uniq g2 o2 fun a _ => rfl]
        exact fun a ha hb => g4 j b c1 l F n1 f1 s1 o1 a hb ha
      · rw [hs j n1] at s1
        rw [hs k n2] at s2
        exact c.sep j k b c1 b' c2 l l' F F' ne f1 f2 s1 s2 o1 o2
theorem noAl_of {r : Ro} {i i2 k : Nat} (h : noAl r i = true) : r[i2]? ≠ some (Sl.al i k) := fun e => by
  have := List.all_eq_true.mp h _ (List.mem_of_getElem? e)
  simp at this
theorem Con.replace (c : Con K B H σ r O) {i : Nat} {x : Sl} (hl : σ'.length = σ.length) (hs : ∀ j, j ≠ i → σ'[j]? = σ[j]?)
    (hx : match x with
      | .non => True
      | .al _ _ => False
      | .frz _ d => ∃ v, σ'[i]? = some (some v) ∧ Dq K B v d
      | .own _ ct => ∃ l F, σ'[i]? = some (some (V.ref l)) ∧ OwnR K B H ct l F ∧ (∀ a ∈ F, O a) ∧ ∀ (j : Nat) b' c' l' F', j ≠ i → r[j]? = some (Sl.own b' c') → σ[j]? = some (some (V.ref l')) → OwnR K B H c' l' F' → ∀ a ∈ F, a ∉ F')
    (hal : ∀ b rows, x = .own b (.ll rows) → noAl r i = true) : Con K B H σ' (r.set i x) O := by
  refine ⟨c.toCon0.replace hl hs (by cases x <;> first | exact hx | trivial), fun i2 j k h b rows l as h1 h2 h3 => ?_⟩
  rcases get_set h with ⟨rfl, z⟩ | ⟨n, g⟩
  · subst z; exact hx.elim
  · rw [hs i2 n]
    rcases get_set h1 with ⟨rfl, z⟩ | ⟨n1, g1⟩
    · exact absurd g (noAl_of (hal b rows z.symm))
    · rw [hs j n1] at h2
      exact c.al i2 j k g b rows l as g1 h2 h3
theorem Con.forget (c : Con K B H σ r O) (i : Nat) : Con K B H σ (r.set i .non) O := c.replace (x := .non) rfl (fun _ _ => rfl) trivial (fun _ _ e => by cases e)
/-- fewer addresses are owned -/
theorem Con.shrink (c : Con K B H σ r O) (hO : ∀ a, O' a → O a) (hF : ∀ (i : Nat) b ct l F, r[i]? = some (Sl.own b ct) → σ[i]? = some (some (V.ref l)) → OwnR K B H ct l F → ∀ a ∈ F, O' a) : Con K B H σ r O' :=
  ⟨⟨c.sub, fun a h => c.off a (hO a h), fun a h => c.liv a (hO a h), c.len, c.frz, fun i b ct e => by
    obtain ⟨l, F, h1, h2, h3⟩ := c.own i b ct e
    exact ⟨l, F, h1, h2, hF i b ct l F e h1 h2⟩, c.sep⟩, c.al⟩
/-- more addresses are owned -/
theorem Con.grow (c : Con K B H σ r O) {F : List Addr} (hF : ∀ a ∈ F, B a = none ∧ H a ≠ none) : Con K B H σ r (fun a => O a ∨ a ∈ F) :=
  ⟨⟨c.sub, fun a h => h.elim (c.off a) fun h => (hF a h).1, fun a h => h.elim (c.liv a) fun h => (hF a h).2, c.len, c.frz, fun i b ct e => by
    obtain ⟨l, F, h1, h2, h3⟩ := c.own i b ct e
    exact ⟨l, F, h1, h2, fun a ha => .inl (h3 a ha)⟩, c.sep⟩, c.al⟩
theorem Con0.shrink0 (c : Con0 K B H σ r O) (hO : ∀ a, O' a → O a) (hF : ∀ (i : Nat) b ct l F, r[i]? = some (Sl.own b ct) → σ[i]? = some (some (V.ref l)) → OwnR K B H ct l F → ∀ a ∈ F, O' a) : Con0 K B H σ r O' :=
  ⟨c.sub, fun a h => c.off a (hO a h), fun a h => c.liv a (hO a h), c.len, c.frz, fun i b ct e => by
    obtain ⟨l, F, h1, h2, h3⟩ := c.own i b ct e
    exact ⟨l, F, h1, h2, hF i b ct l F e h1 h2⟩, c.sep⟩
theorem Con0.grow0 (c : Con0 K B H σ r O) {F : List Addr} (hF : ∀ a ∈ F, B a = none ∧ H a ≠ none) : Con0 K B H σ r (fun a => O a ∨ a ∈ F) :=
  ⟨c.sub, fun a h => h.elim (c.off a) fun h => (hF a h).1, fun a h => h.elim (c.liv a) fun h => (hF a h).2, c.len, c.frz, fun i b ct e => by
    obtain ⟨l, F, h1, h2, h3⟩ := c.own i b ct e
    exact ⟨l, F, h1, h2, fun a ha => .inl (h3 a ha)⟩, c.sep⟩
/-- slot i is let go: its addresses are no longer owned -/
theorem Con.release (c : Con K B H σ r O) {i : Nat} {b : Bool} {ct : Ct} {l : Addr} {F : List Addr} (e : r[i]? = some (Sl.own b ct)) (hs : σ[i]? = some (some (V.ref l))) (o : OwnR K B H ct l F) :
    Con K B H σ (r.set i .non) (fun a => O a ∧ a ∉ F) := by
  refine (c.forget i).shrink (fun _ h => h.1) fun j b' c' l' F' e' s' o' a ha => ?_
  rcases get_set e' with ⟨_, z⟩ | ⟨n, e'⟩
  · cases z
  · obtain ⟨m, G, g1, g2, g3⟩ := c.own j b' c' e'
    rw [s'] at g1; cases g1
    refine ⟨?_, fun z => c.sep i j b ct b' c' l l' F F' (Ne.symm n) e e' hs s' o o' a z ha⟩
    rw [ownR_uniq o' g2 fun _ _ => rfl] at g3
    exact g3 a ha
/-- an owned list stands still from now on -/
theorem Con.freeze (c : Con K B H σ r O) {i : Nat} {b : Bool} {ds : List D} (e : r[i]? = some (Sl.own b (.lst ds))) :
    ∃ B' O' v, σ[i]? = some (some v) ∧ Dq K B' v (.list ds) ∧ Step B H O B' H O' ∧ Con K B' H σ (r.set i (.frz b (.list ds))) O' := by
  obtain ⟨l, F, h1, o, h3⟩ := c.own i b _ e
  obtain ⟨rfl, vs, h4, h5⟩ := id o
  have c1 := c.release e h1 o
  have bl : B l = none := c.off l (h3 l (by simp))
  have c2 := c1.still h4 bl (fun h : O l ∧ l ∉ [l] => h.2 (by simp))
  have dp : Dq K (upd B l (.lst vs)) (.ref l) (.list ds) := .lst upd_same (dpa_same (same_new bl) h5)
  refine ⟨upd B l (.lst vs), fun a => O a ∧ a ∉ [l], .ref l, h1, dp, ⟨same_new bl, fun _ _ h _ => h, fun _ h => h, fun a q1 q2 q3 => ?_, fun a h => .inl h.1⟩, ?_⟩
  · rw [upd_ne (show a ≠ l from fun z => q2 (by rw [z]; exact h3 l (by simp)))]
    exact q3
  · have c3 := c2.replace (i := i) (x := .frz b (.list ds)) rfl (fun _ _ => rfl) ⟨_, h1, dp⟩ (fun _ _ e => by cases e)
    rw [List.set_set] at c3
    exact c3
/-- lists that are nobody's stand still from now on -/
theorem Con.stillAll : ∀ {as : List Addr} {rows : List (List D)} {B : Hp} (c : Con K B H σ r O) (ra : RowsAt K B H as rows) (nd : as.Nodup) (hb : ∀ a ∈ as, B a = none ∧ ¬ O a), ∃ B', Same B B' ∧ (∀ a, a ∉ as → B' a = B a) ∧ Con K B' H σ r O ∧ DqAll K B' (as.map V.ref) (rows.map .list)
  | [], _, B, c, .nil, _, _ => ⟨B, Same.refl _, fun _ _ => rfl, c, .nil⟩
  | a :: as, ds :: rows, B, c, .cons h t, nd, hb => by
    obtain ⟨vs, h1, h2⟩ := h
    simp only [List.nodup_cons] at nd
    obtain ⟨b1, n1⟩ := hb a (by simp)
    have c1 := c.still h1 b1 n1
    have sm := same_new (o := .lst vs) b1
    have t' : RowsAt K (upd B a (.lst vs)) H as rows := rowsAt_same sm t fun _ _ => rfl
    obtain ⟨B', s', k', c', d'⟩ := Con.stillAll c1 t' nd.2 fun x hx => by
      rw [upd_ne (show x ≠ a from fun e => nd.1 (e ▸ hx))]
      exact hb x (by simp [hx])
    refine ⟨B', sm.trans s', fun x hx => ?_, c', .cons (.lst (s' _ _ upd_same) (dpa_same (sm.trans s') h2)) d'⟩
    simp only [List.mem_cons, not_or] at hx
    rw [k' x hx.2, upd_ne hx.1]
/-- an owned list of lists stands still from now on -/
theorem Con.freezeLL (c : Con K B H σ r O) {i : Nat} {b : Bool} {rows : List (List D)} (e : r[i]? = some (Sl.own b (.ll rows))) :
    ∃ B' O' v, σ[i]? = some (some v) ∧ Dq K B' v (.list (rows.map .list)) ∧ Step B H O B' H O' ∧ Con K B' H σ (r.set i (.frz b (.list (rows.map .list)))) O' := by
  obtain ⟨l, F, h1, o, h3⟩ := c.own i b _ e
  obtain ⟨as, rfl, h4, nd, ra⟩ := id o
  have c1 := c.release e h1 o
  simp only [List.nodup_cons] at nd
  have off : ∀ a ∈ l :: as, B a = none := fun a ha => c.off a (h3 a ha)
  obtain ⟨B1, s1, k1, c2, d2⟩ := c1.stillAll ra nd.2 fun a ha => ⟨off a (by simp [ha]), fun z => z.2 (by simp [ha])⟩
  have bl : B1 l = none := by rw [k1 l nd.1]; exact off l (by simp)
  have c3 := c2.still h4 bl (fun h : O l ∧ l ∉ l :: as => h.2 (by simp))
  have dp : Dq K (upd B1 l (.lst (as.map V.ref))) (.ref l) (.list (rows.map .list)) := .lst upd_same (dpa_same (same_new bl) d2)
  refine ⟨upd B1 l (.lst (as.map V.ref)), fun a => O a ∧ a ∉ l :: as, .ref l, h1, dp, ⟨s1.trans (same_new bl), fun _ _ h _ => h, fun _ h => h, fun a q1 q2 q3 => ?_, fun a h => .inl h.1⟩, ?_⟩
  · have hn : a ∉ l :: as := fun z => q2 (h3 a z)
    simp only [List.mem_cons, not_or] at hn
    rw [upd_ne hn.1, k1 a hn.2]
    exact q3
  · have c4 := c3.replace (i := i) (x := .frz b (.list (rows.map .list))) rfl (fun _ _ => rfl) ⟨_, h1, dp⟩ (fun _ _ e => by cases e)
    rw [List.set_set] at c4
    exact c4
/-- slot i looks into the list of lists in slot j -/
theorem Con.setAl (c : Con K B H σ r O) {i j k : Nat} {b : Bool} {rows : List (List D)} {l a : Addr} {as : List Addr} (hi : i < σ.length) (hj : r[j]? = some (Sl.own b (.ll rows))) (hs : σ[j]? = some (some (V.ref l))) (hH : H l = some (.lst (as.map V.ref))) (ha : as[k]? = some a) (ne : i ≠ j) :
    Con K B H (σ.set i (some (.ref a))) (r.set i (.al j k)) O := by
  refine ⟨c.toCon0.replace (x := .al j k) List.length_set (fun j n => List.getElem?_set_ne (Ne.symm n)) trivial, fun i2 j2 k2 h b2 rows2 l2 as2 h1 h2 h3 => ?_⟩
  rcases get_set h1 with ⟨_, z⟩ | ⟨n1, h1⟩
  · cases z
  · rw [List.getElem?_set_ne (Ne.symm n1)] at h2
    rcases get_set h with ⟨rfl, z⟩ | ⟨n, h⟩
    · cases z
      rw [hs] at h2; cases h2
      rw [hH] at h3
      have := ref_inj (HO.lst.inj (Option.some.inj h3))
      subst this
      exact ⟨a, ha, List.getElem?_set_self hi⟩
    · rw [List.getElem?_set_ne (Ne.symm n)]
      exact c.al i2 j2 k2 h b2 rows2 l2 as2 h1 h2 h3
/-- shared data is stored in slot i -/
theorem Con.setF (c : Con K B H σ r O) {i : Nat} {b : Bool} {v : V} {d : D} (hi : i < σ.length) (h : Dq K B v d) : Con K B H (σ.set i (some v)) (r.set i (.frz b d)) O :=
  c.replace (x := .frz b d) List.length_set (fun j n => List.getElem?_set_ne (Ne.symm n)) ⟨v, List.getElem?_set_self hi, h⟩ (fun _ _ e => by cases e)
/-- a new object is stored in slot i -/
theorem Con.setN (c : Con K B H σ r O) {H0 : Hp} {i : Nat} {b : Bool} {v : V} {ct : Ct} (hi : i < σ.length) (h : RvR K H0 B H O (.new ct) v) (hal : ∀ rows, ct = .ll rows → noAl r i = true) :
    ∃ F : List Addr, (∀ a ∈ F, H0 a = none ∧ B a = none ∧ ¬ O a) ∧ Con K B H (σ.set i (some v)) (r.set i (.own b ct)) (fun a => O a ∨ a ∈ F) := by
  obtain ⟨l, F, rfl, o, hF⟩ := h
  refine ⟨F, hF, ?_⟩
  have c1 := c.grow (F := F) fun a ha => ⟨(hF a ha).2.1, ownR_some o a ha⟩
  refine c1.replace (x := .own b ct) List.length_set (fun j n => List.getElem?_set_ne (Ne.symm n)) ⟨l, F, List.getElem?_set_self hi, o, fun a ha => .inr ha, fun j b' c' l' F' n e' s' o' a ha hb => ?_⟩ (fun b2 rows e => by cases e; exact hal rows rfl)
  obtain ⟨m, G, g1, g2, g3⟩ := c.own j b' c' e'
  rw [s'] at g1; cases g1
  rw [ownR_uniq o' g2 fun _ _ => rfl] at g3
  exact (hF a ha).2.2 (g3 a hb)
/-- an owned object is changed in place -/
theorem Con.change (c : Con K B H σ r O) {i : Nat} {b : Bool} {ct ct' : Ct} {l : Addr} {F F' : List Addr} (e : r[i]? = some (Sl.own b ct)) (hs : σ[i]? = some (some (V.ref l))) (o : OwnR K B H ct l F)
    (k : ∀ a, a ∉ F → H' a = H a) (o' : OwnR K B H' ct' l F') (hF : ∀ a ∈ F', a ∈ F) (live : ∀ a, H a ≠ none → H' a ≠ none)
    (hal : ∀ rows, ct' = .ll rows → noAl r i = true ∨ (H' l = H l ∧ ∃ rows0, ct = .ll rows0)) : Con K B H' σ (r.set i (.own b ct')) O ∧ Step B H O B H' O := by
  obtain ⟨l0, F0, g1, g2, g3⟩ := c.own i b ct e
  rw [hs] at g1; cases g1
  have hFO : ∀ a ∈ F, O a := fun a ha => by
    rw [ownR_uniq g2 o fun _ _ => rfl] at ha
    exact g3 a ha
  have c1 := (c.release e hs o).toCon0
  have c2 := c1.mono (H' := H') (Same.refl _) (fun a x h => by
    by_cases q : a ∈ F
    · rw [c.off a (hFO a q)] at h; cases h
    · rw [k a q]; exact c.sub a x h) (fun a h => k a h.2) c1.off
  have c3 := c2.grow0 (F := F) fun a ha => ⟨c.off a (hFO a ha), live a (c.liv a (hFO a ha))⟩
  have c4 := c3.replace (i := i) (x := .own b ct') rfl (fun _ _ => rfl) ⟨l, F', hs, o', fun a ha => .inr (hF a ha), fun j b2 c2' l2 F2 n e2 s2 o2 a ha hb => by
    rcases get_set e2 with ⟨_, z⟩ | ⟨n, e2⟩
    · cases z
    · obtain ⟨m, G, q1, q2, q3⟩ := c.own j b2 c2' e2
      rw [s2] at q1; cases q1
      have hz : F2 = G := ownR_uniq q2 o2 fun a ha => k a fun hz => c.sep i j b ct b2 c2' l l2 F G (Ne.symm n) e e2 hs s2 o q2 a hz ha
      subst hz
      exact c.sep i j b ct b2 c2' l l2 F F2 (Ne.symm n) e e2 hs s2 o q2 a (hF a ha) hb⟩
  rw [List.set_set] at c4
  refine ⟨⟨c4.shrink0 (fun a h => ?_) fun j b2 c2' l2 F2 e2 s2 o2 a ha => ?_, fun i2 j k2 h b2 rows l2 as h1 h2 h3 => ?_⟩, ⟨Same.refl _, fun a x h n => ?_, live, fun _ _ _ h => h, fun _ h => .inl h⟩⟩
  · by_cases q : a ∈ F
    · exact .inr q
    · exact .inl ⟨h, q⟩
  · obtain ⟨m, G, q1, q2, q3⟩ := c4.own j b2 c2' e2
    rw [s2] at q1; cases q1
    rw [ownR_uniq o2 q2 fun _ _ => rfl] at q3
    exact (q3 a ha).elim (fun h => h.1) fun h => hFO a h
  · rcases get_set h with ⟨rfl, z⟩ | ⟨n, g⟩
    · cases z
    · rcases get_set h1 with ⟨rfl, z⟩ | ⟨n1, g1⟩
      · cases z
        rw [hs] at h2; cases h2
        rcases hal rows rfl with q | ⟨q, rows0, rfl⟩
        · exact absurd g (noAl_of q)
        · rw [q] at h3
          exact c.al i2 j k2 g b rows0 _ as e hs h3
      · obtain ⟨m, G, q1, q2, q3⟩ := c.own j b2 _ g1
        rw [h2] at q1; cases q1
        rw [k _ (fun hz => c.sep i j b ct b2 _ l _ F G (Ne.symm n1) e g1 hs h2 o q2 _ hz (ownR_mem q2))] at h3
        exact c.al i2 j k2 g b2 rows _ as g1 h2 h3
  · rw [k a fun z => n (hFO a z)]; exact h
end

abbrev Cx.g (X : Cx) : Ct2 := ⟨X.K, X.mg⟩
def DE (X : Cx) (W : WX) (e : Expr) (m : M RV) : Prop := PE X e (tG (Cx.g X) W m (rV (Cx.g X)))
def DO (X : Cx) (W : WX) (e : Expr) (m : M AV) : Prop := PE X e (tG (Cx.g X) W m (rA (Cx.g X)))
def DA (X : Cx) (W : WX) (es : List Expr) (m : M (List AV)) : Prop := PA X es (tG (Cx.g X) W m (rL (Cx.g X)))
def DB (X : Cx) (W : WX) (e : Expr) (m : M Bool) : Prop := PT X e (tG (Cx.g X) W m rB)
theorem pe_weak {X : Cx} {e : Expr} {t t' : TE} (h : PE X e t) (w : ∀ σ H Q, t' σ H Q → t σ H Q) : PE X e t' := ⟨fun pins s σ H Q I q => h.run pins s σ H Q I (w σ H Q q)⟩
theorem pt_weak {X : Cx} {e : Expr} {t t' : TT} (h : PT X e t) (w : ∀ σ H Q, t' σ H Q → t σ H Q) : PT X e t' := ⟨fun pins s σ H Q I q => h.run pins s σ H Q I (w σ H Q q)⟩
theorem pa_weak {X : Cx} {e : List Expr} {t t' : TA} (h : PA X e t) (w : ∀ σ H Q, t' σ H Q → t σ H Q) : PA X e t' := ⟨fun pos pins s σ H Q I q => h.run pos pins s σ H Q I (w σ H Q q)⟩
theorem ps_weak {X : Cx} {e : Stmt} {t t' : TS} (h : PS X e t) (w : ∀ D σ H, t' D σ H → t D σ H) : PS X e t' := ⟨fun pins s σ H D I q => h.run pins s σ H D I (w D σ H q)⟩

theorem bind_assoc {α β γ : Type} (m : M α) (f : α → M β) (k : β → M γ) : (m.bind f).bind k = m.bind fun a => (f a).bind k := by
  funext r
  unfold M.bind
  cases m r with
  | none => rfl
  | some z => obtain ⟨o, r'⟩ := z; cases o <;> rfl
theorem ret_bind {α β : Type} (a : α) (f : α → M β) : (M.ret a).bind f = f a := rfl
theorem mOp_one (g : List Rs → Option RV) (a : M AV) : mOp g [a] = a.bind fun x => mFin g [x] := by
  unfold mOp oL oL
  simp only [bind_assoc, ret_bind]
theorem mOp_two (g : List Rs → Option RV) (a b : M AV) : mOp g [a, b] = a.bind fun x => b.bind fun y => mFin g [x, y] := by
  unfold mOp oL oL oL
  simp only [bind_assoc, ret_bind]

section
variable {X : Cx} {W : WX}
theorem de_const {e : Expr} {v : V} {d : D} (h : PE X e (tC v)) (hd : ∀ B, Dq X.K B v d) : DE X W e (mC d) := pe_weak h fun σ H Q ⟨B, r, O, h⟩ => h.ret (hd B)
theorem de_int {i j pos} : DE X W (.Constant (.int i) j pos) (mC (.int i)) := de_const pe_int fun _ => .int i
theorem de_bl {i j pos} : DE X W (.Constant (.bool i) j pos) (mC (.bool i)) := de_const pe_bl fun _ => .bl i
theorem de_non {j pos} : DE X W (.Constant .none j pos) (mC .none) := de_const pe_non fun _ => .non
theorem bor_set {r : Ro} {σ : L2.St} {i : Nat} {x y : Sl} (h : r[i]? = some x) (hp : pinned x = true → pinned y = true) : Bor r σ (r.set i y) σ := fun j z hz pz => by
  refine ⟨?_, rfl⟩
  by_cases e : j = i
  · subst e
    rw [h] at hz; cases hz
    obtain ⟨hl, _⟩ := List.getElem?_eq_some_iff.mp h
    exact ⟨y, List.getElem?_set_self hl, hp pz⟩
  · exact ⟨z, by rw [List.getElem?_set_ne (Ne.symm e)]; exact hz, pz⟩
/-- the slot i as a value -/
theorem rd_var {i : Nat} {σ : L2.St} {H : Hp} {Q : VK} : tG (Cx.g X) W (mRd i) (rV (Cx.g X)) σ H Q → tVar i σ H Q := fun ⟨B, r, O, c, o, r', e, p⟩ => by
  unfold mRd at e
  split at e
  · rename_i b d q
    cases e
    obtain ⟨v, h1, h2⟩ := c.frz i b d q
    exact ⟨v, h1, p B H O v .refl c .refl h2⟩
  · rename_i b ds q
    cases e
    obtain ⟨B', O', v, h1, h2, s, c'⟩ := c.freeze q
    exact ⟨v, h1, p B' H O' v s c' (bor_set q fun z => z) h2⟩
  · rename_i b rows q
    cases e
    obtain ⟨B', O', v, h1, h2, s, c'⟩ := c.freezeLL q
    exact ⟨v, h1, p B' H O' v s c' (bor_set q fun z => z) h2⟩
  · cases e
theorem de_var {e : Expr} {i : Nat} (h : PE X e (tVar i)) : DE X W e (mRd i) := pe_weak h fun σ H Q => rd_var
/-- the slot i as an operand -/
theorem do_var {e : Expr} {i : Nat} (h : PE X e (tVar i)) : DO X W e (oS i) := pe_weak h fun σ H Q ⟨B, r, O, c, o, r', e, p⟩ => by
  unfold oS at e
  split at e
  · rename_i x q
    cases e
    have : ∃ v, σ[i]? = some (some v) := by
      simp only [look2] at q
      split at q
      · rename_i b d z
        obtain ⟨v, h1, _⟩ := c.frz i b d z
        exact ⟨v, h1⟩
      · rename_i b ct z
        obtain ⟨l, F, h1, _⟩ := c.own i b ct z
        exact ⟨_, h1⟩
      · rename_i j k z
        split at q
        · rename_i b rows z2
          cases z3 : rows[k]? with
          | none => rw [z3] at q; cases q
          | some ds =>
            obtain ⟨l, F, h1, ⟨as, rfl, h2, nd, ra⟩, h3⟩ := c.own j b _ z2
            obtain ⟨a, g1, g2⟩ := c.al i j k z b rows l as z2 h1 h2
            exact ⟨_, g2⟩
        · cases q
      · cases q
    obtain ⟨v, h1⟩ := this
    exact ⟨v, h1, p B H O v .refl c .refl h1⟩
  · cases e
/-- an expression as an operand -/
theorem do_of {e : Expr} {m : M RV} (h : DE X W e m) : DO X W e (oE m) := pe_weak h fun σ H Q ⟨B, r, O, c, o, r', e, p⟩ => by
  refine ⟨B, r, O, c, ?_⟩
  unfold oE M.bind at e
  cases q : m r with
  | none => rw [q] at e; cases e
  | some z =>
    obtain ⟨o1, r1⟩ := z
    rw [q] at e
    refine ⟨o1, r1, rfl, ?_⟩
    cases o1 with
    | exc x => cases e; exact p
    | ok rv =>
      simp only [M.of] at e
      cases qd : rv.data with
      | none => rw [qd] at e; cases e
      | some d =>
        rw [qd] at e
        cases e
        intro B1 H1 O1 v s1 c1 b1 x1
        obtain ⟨B2, s2, c2, dp, _⟩ := c1.frozen s1 x1 qd
        exact p B2 H1 O1 v s2 c2 b1 dp
theorem da_nil : DA X W [] (oL []) := pa_weak pa_nil fun σ H Q ⟨B, r, O, h⟩ => h.ret .nil
theorem da_cons {e : Expr} {es : List Expr} {m : M AV} {ms : List (M AV)} (h : DO X W e m) (t : DA X W es (oL ms)) (hs : starEach (e :: es) X.env = (false, eval e X.env) :: starEach es X.env := by rfl) : DA X W (e :: es) (oL (m :: ms)) := pa_weak (pa_cons h t hs) fun σ H Q ⟨B, r, O, h⟩ => by
  refine tG.of ((h.bind later_rL (R := rA (Cx.g X))).mono ?_)
  rintro x H1 ⟨a, B1, r1, O1, s1, x1, h1⟩
  refine tG.of ((h1.bind later_rL (R := rL (Cx.g X))).mono ?_)
  rintro xs H2 ⟨as, B2, r2, O2, s2, x2, h2⟩
  exact h2.ret (Paired.cons (x1.same s2.sB) x2)
end
end DL
end

section
namespace DL
open PySem
/-- at most so many items -/
def lineD : Nat := 16777216
/-- a place in a row, from the front or (below nought) from behind -/
def ixD (n : Nat) (i : Int) : Option Nat := if 0 ≤ i then (if i < n then some i.toNat else none) else if -(n : Int) ≤ i then some (i + n).toNat else none
def I2 (f : Int → Int → Option D) : List Rs → Option RV
  | [.fz (.int i), .fz (.int j)] => (f i j).map .val
  | _ => none
def gSub : List Rs → Option RV := I2 fun i j => some (.int (i - j))
def gMod : List Rs → Option RV := I2 fun i j => if 0 < j then some (.int (i % j)) else none
def gDiv : List Rs → Option RV := I2 fun i j => if 0 < j ∧ j.natAbs.log2 < 9000 then some (.int (i / j)) else none
def gPow : List Rs → Option RV := I2 fun i j => if 0 ≤ j ∧ j ≤ 1000000 ∧ i.natAbs < 2 ^ 64 then some (.int (i ^ j.toNat)) else none
def gLt : List Rs → Option RV := I2 fun i j => some (.bool (decide (i < j)))
def gGt : List Rs → Option RV := I2 fun i j => some (.bool (decide (j < i)))
def gGe : List Rs → Option RV := I2 fun i j => some (.bool (decide (j ≤ i)))
/-- + -/
def addD : D → D → Option RV
  | .int i, .int j => some (.val (.int (i + j)))
  | .tuple xs, .tuple ys => if xs.length + ys.length ≤ lineD then some (.val (.tuple (xs ++ ys))) else none
  | .list xs, .list ys => if xs.length + ys.length ≤ lineD then some (.new (.lst (xs ++ ys))) else none
  | _, _ => none
def gAdd : List Rs → Option RV
  | [a, b] => match a.data, b.data with
    | some x, some y => addD x y
    | _, _ => none
  | _ => none
/-- * -/
def mulD : D → D → Option RV
  | .int i, .int j => if i.natAbs.log2 + j.natAbs.log2 < 1000000 then some (.val (.int (i * j))) else none
  | .list xs, .int k => if -(2 ^ 63) ≤ k ∧ k < 2 ^ 63 ∧ xs.length * k.toNat ≤ lineD then some (.new (.lst (List.replicate k.toNat xs).flatten)) else none
  | _, _ => none
def gMul : List Rs → Option RV
  | [a, b] => match a.data, b.data with
    | some x, some y => mulD x y
    | _, _ => none
  | _ => none
/-- such data can be compared -/
def okD (d : D) : Bool := d.canLay0 && decide (d.depth ≤ 64)
def gEq : List Rs → Option RV
  | [a, b] => match a.data, b.data with
    | some x, some y => if okD x && okD y then some (.val (.bool (PyData.eqv x y))) else none
    | _, _ => none
  | _ => none
def gNe : List Rs → Option RV
  | [a, b] => match a.data, b.data with
    | some x, some y => if okD x && okD y then some (.val (.bool (!PyData.eqv x y))) else none
    | _, _ => none
  | _ => none
/-- o[i] of lists and tuples -/
def getD : D → D → Option D
  | .list xs, .int i => (ixD xs.length i).bind fun j => xs[j]?
  | .tuple xs, .int i => (ixD xs.length i).bind fun j => xs[j]?
  | _, _ => none
def kyOf : D → Option Ky
  | .int i => some (.inl i)
  | .str x => some (.inr x)
  | _ => none
def gIx : List Rs → Option RV
  | [a, b] => match a.data, b.data with
    | some x, some y => (getD x y).map .val
    | _, _ => none
  | _ => none
def gAbs : List Rs → Option RV
  | [.fz (.int i)] => some (.val (.int (if i < 0 then -i else i)))
  | _ => none
def intsD : List D → Option (List Int)
  | [] => some []
  | .int i :: r => (intsD r).map (i :: ·)
  | _ => none
def gMax2 : List Rs → Option RV := I2 fun i j => some (.int (if j > i then j else i))
def gMin2 : List Rs → Option RV := I2 fun i j => some (.int (if j < i then j else i))
def rowOf : D → Option (List D)
  | .list xs => some xs
  | .tuple xs => some xs
  | _ => none
def gTuple : List Rs → Option RV
  | [a] => (a.data.bind rowOf).map fun xs => .val (.tuple xs)
  | _ => none
def dataAll : List Rs → Option (List D)
  | [] => some []
  | .fz d :: r => (dataAll r).map (d :: ·)
  | .ow _ :: _ => none
/-- (a, b, ..): operands that stand still -/
def gTup (as : List Rs) : Option RV := (dataAll as).bind fun ds => if ds.length ≤ lineD then some (.val (.tuple ds)) else none
def gLst (as : List Rs) : Option RV := (dataAll as).bind fun ds => if ds.length ≤ lineD then some (.new (.lst ds)) else none
def boolV : RV → Option Bool
  | .val (.bool b) => some b
  | _ => none
/-- a test by a value that is True or False -/
def mTst (m : M RV) : M Bool := m.bind fun v => M.of (boolV v)
def mNot (m : M Bool) : M Bool := m.bind fun b => M.ret (!b)
def mAnd (a b : M Bool) : M Bool := a.bind fun x => if x then b else M.ret false
def mOr (a b : M Bool) : M Bool := a.bind fun x => if x then M.ret true else b
/-- a test by truth -/
def mFz (m : M RV) : M D := m.bind fun v => M.of v.data
end DL
end

section
namespace DL
open PySem PySem.Spec PyProof.Rows L2
theorem line_eq : lineD = sizeLine := by rw [sizeLine_eq]; rfl

section
variable {X : Cx} {W : WX}
def OpD (X : Cx) (f : Value → Value → Sem Value) (g : List Rs → Option RV) : Prop :=
  OpR X f fun x y H Q => ∃ B a b z, Same B H ∧ RsR X.K B H a x ∧ RsR X.K B H b y ∧ g [a, b] = some z ∧ ∀ H' v, Alc X.K B H H' z v → Q v H'
def IxOD (X : Cx) (g : List Rs → Option RV) : Prop :=
  IxR X fun x y H Q => ∃ B a b z, Same B H ∧ RsR X.K B H a x ∧ RsR X.K B H b y ∧ g [a, b] = some z ∧ ∀ H' v, Alc X.K B H H' z v → Q v H'
def CallD (X : Cx) (f : Value) (g : List Rs → Option RV) : Prop :=
  CallR X f fun vs H Q => ∃ B as z, Same B H ∧ Paired (RsR X.K B H) as vs ∧ g as = some z ∧ ∀ H' v, Alc X.K B H H' z v → Q v H'
theorem At.fin {g : List Rs → Option RV} {as : List AV} {B : Hp} {r : Ro} {O : Addr → Prop} {σ : L2.St} {H : Hp} {vs : List V} {Q : VK} (h : At (Cx.g X) W (mFin g as) (rV (Cx.g X)) B r O σ H Q) (x : Paired (AvR X.K B σ) as vs) :
    ∃ xs z, Same B H ∧ Paired (RsR X.K B H) xs vs ∧ g xs = some z ∧ ∀ H' v, Alc X.K B H H' z v → Q v H' := by
  obtain ⟨c, o, r', e, p⟩ := h
  unfold mFin at e
  split at e
  · cases e
  · rename_i xs q
    cases qg : g xs with
    | none => rw [qg] at e; cases e
    | some z =>
      rw [qg] at e
      cases e
      refine ⟨xs, z, c.sub, c.looks2_ q x, qg, fun H' v a => ?_⟩
      obtain ⟨B', s, c', rv⟩ := c.alc a
      exact p B' H' O v s c' .refl rv
theorem At.ofBool {v : RV} {B : Hp} {r : Ro} {O : Addr → Prop} {σ : L2.St} {H H0 : Hp} {y : V} {Q : Bool → Hp → Prop} (h : At (Cx.g X) W (M.of (boolV v)) rB B r O σ H Q) (x : rV (Cx.g X) H0 B H O σ v y) : ∃ k, y = .bl k ∧ Q k H := by
  obtain ⟨c, o, r', e, p⟩ := h
  cases v with
  | val d =>
    cases d with
    | bool b =>
      cases e
      exact ⟨b, dp_bl x, p B H O b .refl c .refl rfl⟩
    | _ => cases e
  | new c => cases e
theorem two_ops {e1 e2 : Expr} {oa ob : M AV} {g : List Rs → Option RV} {σ : L2.St} {H : Hp} {Q : VK} (h : tG (Cx.g X) W (mOp g [oa, ob]) (rV (Cx.g X)) σ H Q) :
    tOp (fun x y H Q => ∃ B a b z, Same B H ∧ RsR X.K B H a x ∧ RsR X.K B H b y ∧ g [a, b] = some z ∧ ∀ H' v, Alc X.K B H H' z v → Q v H') (tG (Cx.g X) W oa (rA (Cx.g X))) (tG (Cx.g X) W ob (rA (Cx.g X))) σ H Q := by
  obtain ⟨B, r, O, h⟩ := h
  rw [mOp_two] at h
  refine tG.of ((h.bind later_rV (R := rA (Cx.g X))).mono ?_)
  rintro x H1 ⟨a, B1, r1, O1, s1, x1, h1⟩
  refine tG.of ((h1.bind later_rV (R := rA (Cx.g X))).mono ?_)
  rintro y H2 ⟨b, B2, r2, O2, s2, x2, h2⟩
  obtain ⟨xs, z, sb, p, hg, q⟩ := h2.fin (.cons (x1.same s2.sB) (.cons x2 .nil))
  cases p with
  | cons p1 p => cases p with
    | cons p2 p =>
      cases p
      exact ⟨B2, _, _, z, sb, p1, p2, hg, q⟩
theorem de_bin {a b : Expr} {op : Operator} {pos : Pos} {g : List Rs → Option RV} {oa ob : M AV} (ho : OpD X (binaryOp op) g) (ha : DO X W a oa) (hb : DO X W b ob) : DE X W (.BinOp a op b pos) (mOp g [oa, ob]) :=
  pe_weak (pe_op ho ha hb) fun σ H Q h => two_ops (e1 := a) (e2 := b) h
theorem de_cmp {a b : Expr} {op : CmpOp} {pos : Pos} {g : List Rs → Option RV} {oa ob : M AV} (ho : OpD X (compareOp op) g) (ha : DO X W a oa) (hb : DO X W b ob) (hm : behindInMarks op b = false) : DE X W (.Compare a [op] [b] pos) (mOp g [oa, ob]) :=
  pe_weak (pe_cmpR ho ha hb hm) fun σ H Q h => two_ops (e1 := a) (e2 := b) h
theorem de_ix {a b : Expr} {pos : Pos} {g : List Rs → Option RV} {oa ob : M AV} (ho : IxOD X g) (ha : DO X W a oa) (hb : DO X W b ob) (hs : PlainIx b) : DE X W (.Subscript a b pos) (mOp g [oa, ob]) :=
  pe_weak (pe_ix ho ha hb hs) fun σ H Q h => two_ops (e1 := a) (e2 := b) h
/-- a test from a comparison -/
theorem db_cmp {a b : Expr} {op : CmpOp} {pos : Pos} {g : List Rs → Option RV} {oa ob : M AV} (ho : OpD X (compareOp op) g) (ha : DO X W a oa) (hb : DO X W b ob) (hm : behindInMarks op b = false) : DB X W (.Compare a [op] [b] pos) (mTst (mOp g [oa, ob])) :=
  pt_weak (pt_cmpR ho ha hb hm) fun σ H Q ⟨B, r, O, h⟩ => by
    refine two_ops (e1 := a) (e2 := b) (tG.of ((h.bind later_rB (R := rV (Cx.g X))).mono ?_))
    rintro y H1 ⟨v, B1, r1, O1, s1, x1, h1⟩
    exact h1.ofBool x1
end
end DL
end

section
namespace DL
open PySem PySem.Spec PyProof.Rows L2

section
variable {K : PySem.W.Frag} {B H : Hp}
/-- a row that is looked at -/
theorem rs_list {a : Rs} {ds : List D} {v : V} (sb : Same B H) (h : RsR K B H a v) (e : a.data = some (.list ds)) : ∃ l vs, v = .ref l ∧ H l = some (.lst vs) ∧ DqAll K B vs ds := by
  cases a with
  | fz d =>
    cases e
    obtain ⟨l, vs, rfl, s, d⟩ := dp_list h
    exact ⟨l, vs, rfl, sb _ _ s, d⟩
  | ow c =>
    cases c with
    | lst es =>
      cases e
      obtain ⟨l, F, rfl, _, vs, e1, d⟩ := h
      exact ⟨l, vs, rfl, e1, d⟩
    | dK _ => cases e
    | dT _ => cases e
    | ll _ => cases e
    | dl _ => cases e
theorem rs_tuple {a : Rs} {ds : List D} {v : V} (sb : Same B H) (h : RsR K B H a v) (e : a.data = some (.tuple ds)) : ∃ l vs, v = .ref l ∧ TupAt H l vs ∧ DqAll K B vs ds := by
  cases a with
  | fz d =>
    cases e
    obtain ⟨l, vs, rfl, s, d⟩ := dp_tuple h
    exact ⟨l, vs, rfl, tup_same sb s, d⟩
  | ow c => cases c <;> cases e
theorem rs_dp {a : Rs} {d : D} {v : V} (sb : Same B H) (h : RsR K B H a v) (e : a.data = some d) : Dq K H v d := by
  cases a with
  | fz d' => cases e; exact dp_same sb h
  | ow c =>
    cases c with
    | lst es =>
      cases e
      obtain ⟨l, F, rfl, _, vs, e1, d⟩ := h
      exact .lst e1 (dpa_same sb d)
    | dK _ => cases e
    | dT _ => cases e
    | ll _ => cases e
    | dl _ => cases e
theorem rs_int {a : Rs} {i : Int} {v : V} (h : RsR K B H a v) (e : a.data = some (.int i)) : v = .int i := by
  cases a with
  | fz d => cases e; exact dp_int h
  | ow c => cases c <;> cases e
theorem rs_str {a : Rs} {i : Str} {v : V} (h : RsR K B H a v) (e : a.data = some (.str i)) : v = .str i := by
  cases a with
  | fz d => cases e; exact dp_str h
  | ow c => cases c <;> cases e
theorem alc_val {v : V} {d : D} {Q : VK} (q : ∀ H' v, Alc K B H H' (.val d) v → Q v H') (h : Dq K B v d) : Q v H := q H v (.inl ⟨rfl, h⟩)
theorem alc_tup {vs : List V} {ds : List D} {Q : VK} (q : ∀ H' v, Alc K B H H' (.val (.tuple ds)) v → Q v H') (h : DqAll K B vs ds) (p : Addr) (o : Obj) (hp : H p = none) (ht : TP o) : Q (.ref p) (upd H p (.frz o (.tup vs))) :=
  q _ _ (.inr ⟨p, vs, ds, o, hp, ht, rfl, rfl, h, rfl⟩)
theorem alc_lst {vs : List V} {ds : List D} {Q : VK} (q : ∀ H' v, Alc K B H H' (.new (.lst ds)) v → Q v H') (h : DqAll K B vs ds) (p : Addr) (hp : H p = none) : Q (.ref p) (upd H p (.lst vs)) :=
  q _ _ ⟨p, vs, hp, rfl, h, rfl⟩
end

section
variable {X : Cx} {W : WX}
theorem i2_of {f : Int → Int → Option D} {a b : Rs} {z : RV} (h : I2 f [a, b] = some z) : ∃ i j d, a = .fz (.int i) ∧ b = .fz (.int j) ∧ f i j = some d ∧ z = .val d := by
  unfold I2 at h
  split at h
  · rename_i i j e
    cases e
    cases q : f i j with
    | none => rw [q] at h; cases h
    | some d => rw [q] at h; cases h; exact ⟨i, j, d, rfl, rfl, q, rfl⟩
  · cases h
/-- from a rule on ints -/
theorem opD_int {f : Value → Value → Sem Value} {C : Int → Int → Prop} {g : Int → Int → V} {k : Int → Int → Option D} (ho : OpR X f (rI C g)) (hk : ∀ i j d, k i j = some d → C i j ∧ ∀ B, Dq X.K B (g i j) d) : OpD X f (I2 k) := by
  intro pins s σ H x y v u Q I rx ry ⟨B, a, b, z, sb, r1, r2, hg, q⟩
  obtain ⟨i, j, d, rfl, rfl, e, rfl⟩ := i2_of hg
  obtain ⟨hc, hd⟩ := hk i j d e
  exact ho pins s σ H x y v u Q I rx ry ⟨i, j, dp_int r1, dp_int r2, hc, alc_val q (hd B)⟩
theorem opD_int0 {f : Value → Value → Sem Value} {g : Int → Int → V} {k : Int → Int → Option D} (ho : OpR X f (rI0 g)) (hk : ∀ i j d, k i j = some d → ∀ B, Dq X.K B (g i j) d) : OpD X f (I2 k) := by
  intro pins s σ H x y v u Q I rx ry ⟨B, a, b, z, sb, r1, r2, hg, q⟩
  obtain ⟨i, j, d, rfl, rfl, e, rfl⟩ := i2_of hg
  exact ho pins s σ H x y v u Q I rx ry ⟨i, j, dp_int r1, dp_int r2, alc_val q (hk i j d e B)⟩
theorem od_sub : OpD X (binaryOp .Sub) gSub := opD_int0 op_sub fun i j d e B => by cases e; exact .int _
theorem od_mod : OpD X (binaryOp .Mod) gMod := opD_int op_mod fun i j d e => by
  split at e
  · rename_i h; cases e; exact ⟨h, fun B => .int _⟩
  · cases e
theorem od_div : OpD X (binaryOp .FloorDiv) gDiv := opD_int op_fdivW fun i j d e => by
  split at e
  · rename_i h; cases e; exact ⟨h, fun B => .int _⟩
  · cases e
theorem od_pow : OpD X (binaryOp .Pow) gPow := opD_int op_pow fun i j d e => by
  split at e
  · rename_i h; cases e; exact ⟨h, fun B => .int _⟩
  · cases e
theorem od_lt : OpD X (compareOp .Lt) gLt := opD_int0 op_lt fun i j d e B => by cases e; exact .bl _
theorem od_gt : OpD X (compareOp .Gt) gGt := opD_int0 op_gt fun i j d e B => by cases e; exact .bl _
theorem od_ge : OpD X (compareOp .GtE) gGe := opD_int0 op_ge fun i j d e B => by cases e; exact .bl _
theorem g2_of {f : D → D → Option RV} {a b : Rs} {z : RV} (h : (match a.data, b.data with | some x, some y => f x y | _, _ => none) = some z) : ∃ x y, a.data = some x ∧ b.data = some y ∧ f x y = some z := by
  split at h
  · rename_i x y e1 e2; exact ⟨x, y, e1, e2, h⟩
  · cases h
theorem od_add : OpD X (binaryOp .Add) gAdd := by
  intro pins s σ H x y v u Q I rx ry ⟨B, a, b, z, sb, r1, r2, hg, q⟩
  obtain ⟨d, e, h1, h2, hf⟩ := g2_of hg
  unfold addD at hf
  split at hf
  · cases hf
    exact op_add pins s σ H x y v u Q I rx ry ⟨_, _, rs_int r1 h1, rs_int r2 h2, alc_val q (.int _)⟩
  · rename_i xs ys
    split at hf
    · rename_i hl
      cases hf
      obtain ⟨l, vs, rfl, s1, d1⟩ := rs_tuple sb r1 h1
      obtain ⟨m, ws, rfl, s2, d2⟩ := rs_tuple sb r2 h2
      refine fop_cat pins s σ H _ _ v u Q I rx ry ⟨l, m, vs, ws, rfl, rfl, s1.sq, s2.sq, by rw [d1.length, d2.length, ← line_eq]; exact hl, fun e => ?_, fun _ e => ?_, fun _ _ => alc_tup q (d1.append d2)⟩
      · subst e
        cases d1
        cases b with
        | fz d' => cases h2; exact alc_val q r2
        | ow c => cases c <;> cases h2
      · subst e
        cases d2
        rw [List.append_nil] at q
        cases a with
        | fz d' => cases h1; exact alc_val q r1
        | ow c => cases c <;> cases h1
    · cases hf
  · rename_i xs ys
    split at hf
    · rename_i hl
      cases hf
      obtain ⟨l, vs, rfl, s1, d1⟩ := rs_list sb r1 h1
      obtain ⟨m, ws, rfl, s2, d2⟩ := rs_list sb r2 h2
      exact op_cat pins s σ H _ _ v u Q I rx ry ⟨l, m, vs, ws, rfl, rfl, s1, s2, by rw [d1.length, d2.length, ← line_eq]; exact hl, alc_lst q (d1.append d2)⟩
    · cases hf
  · cases hf
theorem DqAll.rep {K : PySem.W.Frag} {H : Hp} {vs : List V} {ds : List D} (h : DqAll K H vs ds) : ∀ k : Nat, DqAll K H (List.replicate k vs).flatten (List.replicate k ds).flatten
  | 0 => .nil
  | k + 1 => by
    rw [List.replicate_succ, List.replicate_succ, List.flatten_cons, List.flatten_cons]
    exact h.append (DqAll.rep h k)
theorem od_mul : OpD X (binaryOp .Mult) gMul := by
  intro pins s σ H x y v u Q I rx ry ⟨B, a, b, z, sb, r1, r2, hg, q⟩
  obtain ⟨d, e, h1, h2, hf⟩ := g2_of hg
  unfold mulD at hf
  split at hf
  · split at hf
    · rename_i hc
      cases hf
      exact op_mulW pins s σ H x y v u Q I rx ry ⟨_, _, rs_int r1 h1, rs_int r2 h2, hc, alc_val q (.int _)⟩
    · cases hf
  · rename_i xs k
    split at hf
    · rename_i hc
      cases hf
      obtain ⟨l, vs, rfl, s1, d1⟩ := rs_list sb r1 h1
      exact op_rep pins s σ H _ y v u Q I rx ry ⟨l, k, vs, rfl, rs_int r2 h2, s1, hc.1, hc.2.1, by rw [d1.length, ← line_eq]; exact hc.2.2, alc_lst q (d1.rep k.toNat)⟩
    · cases hf
  · cases hf
theorem okD_shaped {d : D} (h : okD d = true) : SeqAt.shaped d = true := h
theorem okD_lay {d : D} (h : okD d = true) : d.canLay0 = true := (Bool.and_eq_true_iff.mp h).1
theorem od_eq (hu : X.A.units + 64 < cLine) : OpD X (compareOp .Eq) gEq := by
  intro pins s σ H x y v u Q I rx ry ⟨B, a, b, z, sb, r1, r2, hg, q⟩
  obtain ⟨d, e, h1, h2, hf⟩ := g2_of hg
  split at hf
  · rename_i hc
    cases hf
    obtain ⟨k1, k2⟩ := Bool.and_eq_true_iff.mp hc
    exact op_eqD hu pins s σ H x y v u Q I rx ry ⟨d, e, dq_dp (rs_dp sb r1 h1) (okD_lay k1), dq_dp (rs_dp sb r2 h2) (okD_lay k2), okD_shaped k1, okD_shaped k2, alc_val q (.bl _)⟩
  · cases hf
theorem od_ne (hu : X.A.units + 64 < cLine) : OpD X (compareOp .NotEq) gNe := by
  intro pins s σ H x y v u Q I rx ry ⟨B, a, b, z, sb, r1, r2, hg, q⟩
  obtain ⟨d, e, h1, h2, hf⟩ := g2_of hg
  split at hf
  · rename_i hc
    cases hf
    obtain ⟨k1, k2⟩ := Bool.and_eq_true_iff.mp hc
    exact op_neD hu pins s σ H x y v u Q I rx ry ⟨d, e, dq_dp (rs_dp sb r1 h1) (okD_lay k1), dq_dp (rs_dp sb r2 h2) (okD_lay k2), okD_shaped k1, okD_shaped k2, alc_val q (.bl _)⟩
  · cases hf
theorem cd_abs : CallD X (.builtin "abs") gAbs := by
  intro pins s σ H vs us Q I r ⟨B, as, z, sb, p, hg, q⟩
  unfold gAbs at hg
  split at hg
  · cases hg
    cases p with
    | cons p1 p =>
      cases p
      cases dp_int p1
      exact call_abs pins s σ H _ us Q I r ⟨_, rfl, alc_val q (.int _)⟩
  · cases hg
theorem cd_i2 {f : Value} {k : Int → Int → Option D} {g : Int → Int → Int} (ho : CallR X f (fun xs H Q => ∃ i j, xs = [.int i, .int j] ∧ Q (.int (g i j)) H)) (hk : ∀ i j d, k i j = some d → d = .int (g i j)) : CallD X f (I2 k) := by
  intro pins s σ H vs us Q I r ⟨B, as, z, sb, p, hg, q⟩
  unfold I2 at hg
  split at hg
  · rename_i i j
    cases e : k i j with
    | none => rw [e] at hg; cases hg
    | some d =>
      rw [e] at hg
      cases hg
      have := hk i j d e
      subst this
      cases p with
      | cons p1 p =>
        cases p with
        | cons p2 p =>
          cases p
          cases dp_int p1
          cases dp_int p2
          exact ho pins s σ H _ us Q I r ⟨i, j, rfl, alc_val q (.int _)⟩
  · cases hg
theorem cd_max2 (hc : X.calm = true) : CallD X (.builtin "max") gMax2 := cd_i2 (call_max2 hc) fun i j d e => by cases e; rfl
theorem cd_min2 (hc : X.calm = true) : CallD X (.builtin "min") gMin2 := cd_i2 (call_min2 hc) fun i j d e => by cases e; rfl
theorem row_of {d : D} {xs : List D} (h : rowOf d = some xs) : d = .list xs ∨ d = .tuple xs := by
  cases d <;> first | (cases h; first | exact .inl rfl | exact .inr rfl) | cases h
theorem cd_tuple : CallD X (.type "tuple") gTuple := by
  intro pins s σ H vs us Q I r ⟨B, as, z, sb, p, hg, q⟩
  unfold gTuple at hg
  split at hg
  · rename_i a
    cases e : a.data.bind rowOf with
    | none => rw [e] at hg; cases hg
    | some xs =>
      rw [e] at hg
      cases hg
      obtain ⟨d, e1, e2⟩ := Option.bind_eq_some_iff.mp e
      cases p with
      | cons p1 p =>
        cases p
        rcases row_of e2 with rfl | rfl
        · obtain ⟨l, vs, rfl, s1, d1⟩ := rs_list sb p1 e1
          exact fcall_tuple pins s σ H _ us Q I r ⟨l, vs, rfl, .inl ⟨.of s1, alc_tup q d1⟩⟩
        · obtain ⟨l, vs, rfl, s1, d1⟩ := rs_tuple sb p1 e1
          refine fcall_tuple pins s σ H _ us Q I r ⟨l, vs, rfl, .inr ⟨s1.sq, ?_⟩⟩
          cases a with
          | fz d' => cases e1; exact alc_val q p1
          | ow c => cases c <;> cases e1
  · cases hg
theorem ixd_get : IxOD X gIx := by
  intro value slice pins s σ H x y v u Q I rx ry ⟨B, a, b, z, sb, r1, r2, hg, q⟩ hs
  obtain ⟨d, e, h1, h2, hf⟩ := g2_of hg
  cases hz : getD d e with
  | none => rw [hz] at hf; cases hf
  | some w =>
    rw [hz] at hf
    cases hf
    unfold getD at hz
    split at hz
    · rename_i xs i
      obtain ⟨j, e1, e2⟩ := Option.bind_eq_some_iff.mp hz
      obtain ⟨l, vs, rfl, s1, d1⟩ := rs_list sb r1 h1
      obtain ⟨v', e3, e4⟩ := d1.get e2
      refine ix_list value slice pins s σ H _ y v u Q I rx ry ⟨l, vs, i, v', rfl, rs_int r2 h2, .of s1, ?_, alc_val q e4⟩ hs
      unfold atI
      rw [d1.length, show ixN xs.length i = some j from e1]
      exact e3
    · rename_i xs i
      obtain ⟨j, e1, e2⟩ := Option.bind_eq_some_iff.mp hz
      obtain ⟨l, vs, rfl, s1, d1⟩ := rs_tuple sb r1 h1
      obtain ⟨v', e3, e4⟩ := d1.get e2
      refine ix_tup value slice pins s σ H _ y v u Q I rx ry ⟨l, vs, i, v', rfl, rs_int r2 h2, s1.sq, ?_, alc_val q e4⟩ hs
      unfold atI
      rw [d1.length, show ixN xs.length i = some j from e1]
      exact e3
    · cases hz
end
end DL
end

section
namespace DL
open PySem PySem.Spec PyProof.Rows L2
section
variable {X : Cx} {W : WX}
def DW (X : Cx) (W : WX) (e : Expr) (m : M Bool) : Prop := PW X e (tG (Cx.g X) W m rB)
theorem pw_weak {e : Expr} {t t' : TT} (h : PW X e t) (w : ∀ σ H Q, t' σ H Q → t σ H Q) : PW X e t' := ⟨fun whole pins s σ H Q I q => h.run whole pins s σ H Q I (w σ H Q q)⟩
theorem db_not {a : Expr} {pos : Pos} {m : M Bool} (h : DB X W a m) : DB X W (.UnaryOp .Not a pos) (mNot m) := pt_weak (pt_not h) fun σ H Q ⟨B, r, O, h⟩ => by
  refine tG.of ((h.bind later_rB (R := rB)).mono ?_)
  rintro y H1 ⟨v, B1, r1, O1, s1, x1, h1⟩
  cases x1
  exact h1.ret rfl
theorem dw_and1 {a : Expr} {pos : Pos} {m : M Bool} (h : DB X W a m) : DW X W (.BoolOp .And [a] pos) m := pw_and1 h
theorem dw_or1 {a : Expr} {pos : Pos} {m : M Bool} (h : DB X W a m) : DW X W (.BoolOp .Or [a] pos) m := pw_or1 h
theorem dw_and {a b : Expr} {es : List Expr} {pos : Pos} {m n : M Bool} (h : DB X W a m) (t : DW X W (.BoolOp .And (b :: es) pos) n) : DW X W (.BoolOp .And (a :: b :: es) pos) (mAnd m n) := pw_weak (pw_and h t) fun σ H Q ⟨B, r, O, h⟩ => by
  refine tG.of ((h.bind later_rB (R := rB)).mono ?_)
  rintro y H1 ⟨v, B1, r1, O1, s1, x1, h1⟩
  cases x1
  cases y with
  | true => exact iteT (tG.of h1)
  | false => exact iteF (h1.ret rfl)
theorem dw_or {a b : Expr} {es : List Expr} {pos : Pos} {m n : M Bool} (h : DB X W a m) (t : DW X W (.BoolOp .Or (b :: es) pos) n) : DW X W (.BoolOp .Or (a :: b :: es) pos) (mOr m n) := pw_weak (pw_or h t) fun σ H Q ⟨B, r, O, h⟩ => by
  refine tG.of ((h.bind later_rB (R := rB)).mono ?_)
  rintro y H1 ⟨v, B1, r1, O1, s1, x1, h1⟩
  cases x1
  cases y with
  | true => exact iteT (h1.ret rfl)
  | false => exact iteF (tG.of h1)
theorem db_w {e : Expr} {m : M Bool} (h : DW X W e m) : DB X W e m := PW.pt h
/-- an expression that gives True or False, as a test -/
theorem db_val {e : Expr} {m : M RV} (h : DE X W e m) (he : ∀ whole, isTrue e X.env whole = (do let v ← whole; standAt e.pos; holding [v] (truthy v)) := by intro _; rfl) : DB X W e (mTst m) := pt_weak (pt_val h he) fun σ H Q ⟨B, r, O, h⟩ => by
  refine tG.of ((h.bind later_rB (R := rV (Cx.g X))).mono ?_)
  rintro y H1 ⟨v, B1, r1, O1, s1, x1, h1⟩
  exact h1.ofBool x1
def rD (G : Ct2) : Rl D V := fun _ B' _ _ _ d v => Dq G.K B' v d
/-- a result that stands still from now on -/
theorem At.froz {m : M RV} {B : Hp} {r : Ro} {O : Addr → Prop} {σ : L2.St} {H : Hp} {Q : VK} (h : At (Cx.g X) W (mFz m) (rD (Cx.g X)) B r O σ H Q) : At (Cx.g X) W m (rV (Cx.g X)) B r O σ H Q := by
  obtain ⟨c, o, r', e, p⟩ := h
  refine ⟨c, ?_⟩
  unfold mFz M.bind at e
  cases q : m r with
  | none => rw [q] at e; cases e
  | some z =>
    obtain ⟨o1, r1⟩ := z
    rw [q] at e
    refine ⟨o1, r1, rfl, ?_⟩
    cases o1 with
    | exc x => cases e; exact p
    | ok rv =>
      simp only [M.of] at e
      cases qd : rv.data with
      | none => rw [qd] at e; cases e
      | some d =>
        rw [qd] at e
        cases e
        intro B1 H1 O1 v s1 c1 b1 x1
        obtain ⟨B2, s2, c2, dp, _⟩ := c1.frozen s1 x1 qd
        exact p B2 H1 O1 v s2 c2 b1 dp
theorem At.no {α β : Type} {R : Rl α β} {B : Hp} {r : Ro} {O : Addr → Prop} {σ : L2.St} {H : Hp} {Q : β → Hp → Prop} (h : At (Cx.g X) W (M.of none) R B r O σ H Q) : False := by
  obtain ⟨c, o, r', e, p⟩ := h
  cases e
theorem dataAll_of {K : PySem.W.Frag} {B H : Hp} : ∀ {as : List Rs} {ds : List D} {vs : List V}, dataAll as = some ds → Paired (RsR K B H) as vs → DqAll K B vs ds
  | [], _, _, h, p => by cases h; cases p; exact .nil
  | .fz d :: as, ds, _, h, p => by
    cases p with
    | cons p1 p =>
      cases q : dataAll as with
      | none => simp only [dataAll, q] at h; cases h
      | some es =>
        simp only [dataAll, q] at h
        cases h
        exact .cons p1 (dataAll_of q p)
  | .ow c :: as, ds, _, h, p => by cases h
theorem At.ops {ms : List (M AV)} {g : List Rs → Option RV} {B : Hp} {r : Ro} {O : Addr → Prop} {σ : L2.St} {H : Hp} {Q : VK} (h : At (Cx.g X) W (mOp g ms) (rV (Cx.g X)) B r O σ H Q) :
    At (Cx.g X) W (oL ms) (rL (Cx.g X)) B r O σ H fun vs H1 => ∃ B1 xs z, Same B1 H1 ∧ Paired (RsR X.K B1 H1) xs vs ∧ g xs = some z ∧ ∀ H' v, Alc X.K B1 H1 H' z v → Q v H' := by
  refine (h.bind later_rV (R := rL (Cx.g X))).mono ?_
  rintro vs H1 ⟨as, B1, r1, O1, s1, x1, h1⟩
  obtain ⟨xs, z, sb, p, hg, q⟩ := h1.fin x1
  exact ⟨B1, xs, z, sb, p, hg, q⟩
theorem de_tup {es : List Expr} {x1 : Nat} {pos : Pos} {ms : List (M AV)} (h : DA X W es (oL ms)) : DE X W (.Tuple es x1 pos) (mOp gTup ms) := pe_weak (fe_tup h) fun σ H Q ⟨B, r, O, h⟩ => by
  refine tG.of (h.ops.mono ?_)
  rintro vs H1 ⟨B1, xs, z, sb, p, hg, q⟩
  unfold gTup at hg
  obtain ⟨ds, e1, e2⟩ := Option.bind_eq_some_iff.mp hg
  split at e2
  · rename_i hl
    cases e2
    have d := dataAll_of e1 p
    exact ⟨by rw [d.length, ← line_eq]; exact hl, alc_tup q d⟩
  · cases e2
theorem de_lst {es : List Expr} {pos : Pos} {ms : List (M AV)} (h : DA X W es (oL ms)) : DE X W (.List es pos) (mOp gLst ms) := pe_weak (pe_lst h) fun σ H Q ⟨B, r, O, h⟩ => by
  refine tG.of (h.ops.mono ?_)
  rintro vs H1 ⟨B1, xs, z, sb, p, hg, q⟩
  unfold gLst at hg
  obtain ⟨ds, e1, e2⟩ := Option.bind_eq_some_iff.mp hg
  split at e2
  · rename_i hl
    cases e2
    have d := dataAll_of e1 p
    exact ⟨by rw [d.length, ← line_eq]; exact hl, alc_lst q d⟩
  · cases e2
theorem de_cb {id : String} {g : List Rs → Option RV} {x : Str} {p pos : Pos} {e : Expr} {es : List Expr} {ms : List (M AV)} (hc : CallD X (.builtin id) g) (hg : Gl X x) (hm : X.mg x = none) (hv : bootBuiltins x = some (.builtin id)) (ha : DA X W (e :: es) (oL ms))
    (hn : x ≠ "__name__" := by decide) (hdb : (x == ("__debug__" : Str)) = false := by decide)
    (he : starEach (e :: es) X.env = (false, eval e X.env) :: starEach es X.env := by rfl) (hpl : (backTo pos (starEach es X.env)).any (·.1) = false := by rfl) : DE X W (.Call (.Name x p) (e :: es) [] pos) (mOp g ms) :=
  pe_weak (pe_callB hc hg hm hv ha hn hdb he hpl) fun σ H Q ⟨B, r, O, h⟩ => tG.of (h.ops)
theorem de_ct {T : String} {g : List Rs → Option RV} {x : Str} {p pos : Pos} {e : Expr} {es : List Expr} {ms : List (M AV)} (hc : CallD X (.type T) g) (hg : Gl X x) (hm : X.mg x = none) (hv : bootBuiltins x = some (.type T)) (ha : DA X W (e :: es) (oL ms))
    (hn : x ≠ "__name__" := by decide) (hdb : (x == ("__debug__" : Str)) = false := by decide)
    (he : starEach (e :: es) X.env = (false, eval e X.env) :: starEach es X.env := by rfl) (hpl : (backTo pos (starEach es X.env)).any (·.1) = false := by rfl) : DE X W (.Call (.Name x p) (e :: es) [] pos) (mOp g ms) :=
  pe_weak (pe_callTy hc hg hm hv ha hn hdb he hpl) fun σ H Q ⟨B, r, O, h⟩ => tG.of (h.ops)
end
end DL
end

section
namespace DL
open PySem
/-- what a def does: its arguments (an owned one is lent); the answer, the arguments behind it -/
abbrev Sem := List Rs → Option (EO RV × List Rs)
def toSl : Rs → Sl
  | .fz d => .frz false d
  | .ow c => .own true c
def backSl (b : Bool) : Rs → Sl
  | .fz d => .frz b d
  | .ow c => .own b c
def exitSl : Rs → Rs → Sl
  | .fz d, _ => .frz false d
  | .ow _, y => backSl true y
def ownIx : List AV → List Rs → List Nat
  | .slot i :: as, .ow _ :: xs => i :: ownIx as xs
  | _ :: as, _ :: xs => ownIx as xs
  | _, _ => []
def put1 (r : Ro) (i : Nat) (y : Rs) : Ro := match r[i]? with
  | some (.own b _) => r.set i (backSl b y)
  | _ => r
def putBack : Ro → List AV → List Rs → List Rs → Ro
  | r, .slot i :: as, .ow _ :: xs, y :: ys => putBack (put1 r i y) as xs ys
  | r, _ :: as, _ :: xs, _ :: ys => putBack r as xs ys
  | r, _, _, _ => r
def mCall (f : Sem) (ms : List (M AV)) : M RV := (oL ms).bind fun as => fun r => match looks r as with
  | none => none
  | some xs => if (ownIx as xs).Nodup ∧ (ownIx as xs).all (noAl r) = true then match f xs with
      | some (o, ys) => if ys.length = xs.length then some (o, putBack r as xs ys) else none
      | none => none
    else none
/-- a statement's end -/
inductive SO where
  | nx
  | ret (v : RV)
  /-- what slot i holds, with all that it owns -/
  | rets (i : Nat)
  | brk
  | cnt
  | exc (x : Exn)
def S := Ro → Option (SO × Ro)
def sNx : S := fun r => some (.nx, r)
def sSeq (a b : S) : S := fun r => match a r with
  | some (.nx, r') => b r'
  | z => z
def sEx {α : Type} (m : M α) (k : α → S) : S := fun r => match m r with
  | none => none
  | some (.ok a, r') => k a r'
  | some (.exc x, r') => some (.exc x, r')
def sRet (m : M RV) : S := sEx m fun v r => some (.ret v, r)
/-- return name: an object of one's own is handed on -/
def sRetS (i : Nat) : S := fun r => match r[i]? with
  | some (.own false _) => some (.rets i, r)
  | _ => sRet (mRd i) r
def sIf (t : M Bool) (a b : S) : S := sEx t fun c => if c then a else b
def sDrop (m : M RV) : S := sEx m fun _ => sNx
/-- the slot i gets a result; a lent parameter's slot can't be stored to -/
def putSl (i : Nat) (v : RV) : S := fun r => match r[i]? with
  | none => none
  | some x => if pinnedB x then none else match v with
      | .val d => some (.nx, r.set i (.frz false d))
      | .new (.ll rows) => if noAl r i then some (.nx, r.set i (.own false (.ll rows))) else none
      | .new c => some (.nx, r.set i (.own false c))
where pinnedB : Sl → Bool
  | .frz b _ => b
  | .own b _ => b
  | .non => false
  | .al _ _ => false
def sSet (i : Nat) (m : M RV) : S := sEx m (putSl i)
def outs : List Rs → Nat → Ro → List Rs
  | [], _, _ => []
  | .fz d :: xs, k, r => .fz d :: outs xs (k + 1) r
  | .ow c :: xs, k, r => (match r[k]? with
      | some (.own _ c') => .ow c'
      | some (.frz _ d) => .fz d
      | _ => .ow c) :: outs xs (k + 1) r
def allFz : List Rs → Bool
  | [] => true
  | .fz _ :: xs => allFz xs
  | .ow _ :: _ => false
/-- an object handed on: only where no object was lent -/
def handOn (xs : List Rs) (i : Nat) (r : Ro) : Option (EO RV × List Rs) := match r[i]? with
  | some (.own false c) => if allFz xs = true then some (.ok (.new c), outs xs 0 (r.set i .non)) else none
  | _ => none
/-- a def of n parameters and N names by its body -/
def defSem (n N : Nat) (body : S) : Sem := fun xs => if xs.length = n then match body (xs.map toSl ++ List.replicate (N - n) .non) with
    | some (.ret v, r) => some (.ok v, outs xs 0 r)
    | some (.rets i, r) => handOn xs i r
    | some (.nx, r) => some (.ok (.val .none), outs xs 0 r)
    | some (.exc x, r) => some (.exc x, outs xs 0 r)
    | _ => none
  else none
end DL
end

section
namespace DL
open PySem PySem.Spec PyProof.Rows L2
theorem put1_ne {r : Ro} {i j : Nat} {y : Rs} (h : j ≠ i) : (put1 r i y)[j]? = r[j]? := by
  unfold put1
  split
  · exact List.getElem?_set_ne (Ne.symm h)
  · rfl
theorem put1_at {r : Ro} {i : Nat} {y : Rs} {b : Bool} {c : Ct} (h : r[i]? = some (Sl.own b c)) : (put1 r i y)[i]? = some (backSl b y) := by
  unfold put1
  rw [h]
  obtain ⟨hl, _⟩ := List.getElem?_eq_some_iff.mp h
  exact List.getElem?_set_self hl
theorem put1_len {r : Ro} {i : Nat} {y : Rs} : (put1 r i y).length = r.length := by
  unfold put1
  split <;> simp
theorem ownIx_mem : ∀ {as : List AV} {xs : List Rs} {k i : Nat} {c : Ct}, as[k]? = some (AV.slot i) → xs[k]? = some (Rs.ow c) → i ∈ ownIx as xs
  | [], _, _, _, _, h, _ => by simp at h
  | _ :: _, [], _, _, _, _, h => by simp at h
  | a :: as, x :: xs, 0, i, c, h, g => by
    simp at h g
    subst h g
    simp [ownIx]
  | a :: as, x :: xs, k + 1, i, c, h, g => by
    have := ownIx_mem (as := as) (xs := xs) (k := k) (i := i) (c := c) (by simpa using h) (by simpa using g)
    cases a <;> cases x <;> simp [ownIx, this]
theorem ownIx_of : ∀ {as : List AV} {xs : List Rs} {i : Nat}, i ∈ ownIx as xs → ∃ (k : Nat) (c : Ct), as[k]? = some (AV.slot i) ∧ xs[k]? = some (Rs.ow c)
  | [], _, _, h => by simp [ownIx] at h
  | a :: as, [], _, h => by cases a <;> simp [ownIx] at h
  | a :: as, x :: xs, i, h => by
    have rc : i ∈ ownIx as xs → ∃ (k : Nat) (c : Ct), (a :: as)[k]? = some (AV.slot i) ∧ (x :: xs)[k]? = some (Rs.ow c) := fun h => by
      obtain ⟨k, c, h1, h2⟩ := ownIx_of h
      exact ⟨k + 1, c, by simpa using h1, by simpa using h2⟩
    cases a with
    | val d => exact rc (by cases x <;> simpa [ownIx] using h)
    | slot j =>
      cases x with
      | fz d => exact rc (by simpa [ownIx] using h)
      | ow c =>
        simp only [ownIx, List.mem_cons] at h
        rcases h with rfl | h
        · exact ⟨0, c, rfl, rfl⟩
        · exact rc h
theorem putBack_len : ∀ {as : List AV} {xs ys : List Rs} {r : Ro}, (putBack r as xs ys).length = r.length
  | [], _, _, r => by simp [putBack]
  | a :: as, [], _, r => by cases a <;> simp [putBack]
  | a :: as, x :: xs, [], r => by cases a <;> cases x <;> simp [putBack]
  | a :: as, x :: xs, y :: ys, r => by
    cases a <;> cases x <;> simp only [putBack] <;> rw [putBack_len] <;> exact put1_len
theorem putBack_out : ∀ {as : List AV} {xs ys : List Rs} {r : Ro} {j : Nat}, j ∉ ownIx as xs → (putBack r as xs ys)[j]? = r[j]?
  | [], _, _, r, j, _ => by simp [putBack]
  | a :: as, [], _, r, j, _ => by cases a <;> simp [putBack]
  | a :: as, x :: xs, [], r, j, _ => by cases a <;> cases x <;> simp [putBack]
  | a :: as, x :: xs, y :: ys, r, j, h => by
    cases a with
    | val d => cases x <;> exact putBack_out (as := as) (xs := xs) (ys := ys) (by simpa [ownIx] using h)
    | slot i =>
      cases x with
      | fz d => exact putBack_out (as := as) (xs := xs) (ys := ys) (by simpa [ownIx] using h)
      | ow c =>
        simp only [ownIx, List.mem_cons, not_or] at h
        show (putBack (put1 r i y) as xs ys)[j]? = _
        rw [putBack_out (as := as) (xs := xs) (ys := ys) h.2, put1_ne h.1]
theorem putBack_in : ∀ {as : List AV} {xs ys : List Rs} {r : Ro} {k i : Nat} {c c0 : Ct} {y : Rs} {b : Bool}, (ownIx as xs).Nodup → as[k]? = some (AV.slot i) → xs[k]? = some (Rs.ow c) → ys[k]? = some y → r[i]? = some (Sl.own b c0) →
    (putBack r as xs ys)[i]? = some (backSl b y)
  | [], _, _, _, _, _, _, _, _, _, _, h, _, _, _ => by simp at h
  | _ :: _, [], _, _, _, _, _, _, _, _, _, _, h, _, _ => by simp at h
  | _ :: _, _ :: _, [], _, _, _, _, _, _, _, _, _, _, h, _ => by simp at h
  | a :: as, x :: xs, z :: ys, r, 0, i, c, c0, y, b, nd, h1, h2, h3, h4 => by
    simp at h1 h2 h3
    subst h1 h2 h3
    simp only [ownIx, List.nodup_cons] at nd
    show (putBack (put1 r i z) as xs ys)[i]? = _
    rw [putBack_out nd.1]
    exact put1_at h4
  | a :: as, x :: xs, z :: ys, r, k + 1, i, c, c0, y, b, nd, h1, h2, h3, h4 => by
    have h1' : as[k]? = some (AV.slot i) := by simpa using h1
    have h2' : xs[k]? = some (Rs.ow c) := by simpa using h2
    have h3' : ys[k]? = some y := by simpa using h3
    cases a with
    | val d => cases x <;> exact putBack_in (as := as) (xs := xs) (ys := ys) (by simpa [ownIx] using nd) h1' h2' h3' h4
    | slot j =>
      cases x with
      | fz d => exact putBack_in (as := as) (xs := xs) (ys := ys) (by simpa [ownIx] using nd) h1' h2' h3' h4
      | ow c2 =>
        simp only [ownIx, List.nodup_cons] at nd
        have hne : i ≠ j := fun e => nd.1 (e ▸ ownIx_mem h1' h2')
        exact putBack_in (r := put1 r j z) (as := as) (xs := xs) (ys := ys) nd.2 h1' h2' h3' (by rw [put1_ne hne]; exact h4)
theorem looks_get {r : Ro} : ∀ {as : List AV} {xs : List Rs} {k : Nat} {x : Rs}, looks r as = some xs → xs[k]? = some x → ∃ a, as[k]? = some a ∧ look r a = some x
  | [], xs, k, x, h, e => by cases h; simp at e
  | a :: as, xs, k, x, h, e => by
    simp only [looks] at h
    split at h
    · rename_i y ys h1 h2
      cases h
      cases k with
      | zero => simp at e; subst e; exact ⟨a, rfl, h1⟩
      | succ k =>
        obtain ⟨b, g1, g2⟩ := looks_get (k := k) h2 (by simpa using e)
        exact ⟨b, by simpa using g1, g2⟩
    · cases h
theorem look_ow {r : Ro} {a : AV} {c : Ct} (h : look r a = some (.ow c)) : ∃ i b, a = .slot i ∧ r[i]? = some (Sl.own b c) := by
  cases a with
  | val d => cases h
  | slot i =>
    simp only [look] at h
    split at h
    · cases h
    · rename_i b c' q; cases h; exact ⟨i, b, rfl, q⟩
    · cases h
theorem paired_get {α β : Type} {F : α → β → Prop} : ∀ {l : List α} {m : List β} {k : Nat} {x : α}, Paired F l m → l[k]? = some x → ∃ y, m[k]? = some y ∧ F x y
  | _, _, _, _, .nil, e => by simp at e
  | _, _, 0, x, .cons h t, e => by simp at e; subst e; exact ⟨_, rfl, h⟩
  | _, _, k + 1, x, .cons h t, e => by
    obtain ⟨y, h1, h2⟩ := paired_get (k := k) t (by simpa using e)
    exact ⟨y, by simpa using h1, h2⟩
section
variable {K : PySem.W.Frag} {B H B' H' : Hp} {σ : L2.St} {r : Ro} {O Oc' : Addr → Prop} {as : List AV} {xs ys : List Rs} {vs : List V}
/-- what is lent -/
def lent (K : PySem.W.Frag) (B H : Hp) (O : Addr → Prop) (xs : List Rs) (vs : List V) : Addr → Prop := fun a => O a ∧ ∃ (k : Nat) (c : Ct) (l : Addr) (F : List Addr), xs[k]? = some (Rs.ow c) ∧ vs[k]? = some (V.ref l) ∧ OwnR K B H c l F ∧ a ∈ F
/-- the slots at a callee's entry -/
theorem call_in (c : Con K B H σ r O) (lk : looks r as = some xs) (pv : Paired (AvR K B σ) as vs) (nd : (ownIx as xs).Nodup) : Con K B H (vs.map some) (xs.map toSl) (lent K B H O xs vs) := by
  have px := c.looks lk pv
  have own : ∀ (k : Nat) b ct, (xs.map toSl)[k]? = some (Sl.own b ct) → ∃ i b0 l F, as[k]? = some (AV.slot i) ∧ xs[k]? = some (Rs.ow ct) ∧ r[i]? = some (Sl.own b0 ct) ∧ σ[i]? = some (some (V.ref l)) ∧ vs[k]? = some (V.ref l) ∧ OwnR K B H ct l F ∧ ∀ a ∈ F, O a := by
    intro k b ct e
    rw [List.getElem?_map] at e
    cases q : xs[k]? with
    | none => rw [q] at e; cases e
    | some x =>
      rw [q] at e
      cases x with
      | fz d => cases e
      | ow c2 =>
        cases e
        obtain ⟨a, h1, h2⟩ := looks_get lk q
        obtain ⟨i, b0, rfl, h3⟩ := look_ow h2
        obtain ⟨l, F, g1, g2, g3⟩ := c.own i b0 _ h3
        obtain ⟨v, e1, e2⟩ := paired_get pv h1
        rw [show σ[i]? = some (some v) from e2] at g1; cases g1
        exact ⟨i, b0, l, F, h1, rfl, h3, e2, e1, g2, g3⟩
  refine ⟨⟨c.sub, fun a h => c.off a h.1, fun a h => c.liv a h.1, by rw [List.length_map, List.length_map, px.length], fun k b d e => ?_, fun k b ct e => ?_, fun k j b c1 b' c2 l l' F F' ne e1 e2 s1 s2 o1 o2 => ?_⟩, fun i j k h => ?_⟩
  · rw [List.getElem?_map] at e
    cases q : xs[k]? with
    | none => rw [q] at e; cases e
    | some x =>
      rw [q] at e
      cases x with
      | ow c2 => cases e
      | fz d2 =>
        cases e
        obtain ⟨v, e1, e2⟩ := paired_get px q
        exact ⟨v, by rw [List.getElem?_map, e1]; rfl, e2⟩
  · obtain ⟨i, b0, l, F, h1, h2, h3, h4, h5, h6, h7⟩ := own k b ct e
    exact ⟨l, F, by rw [List.getElem?_map, h5]; rfl, h6, fun a ha => ⟨h7 a ha, k, ct, l, F, h2, h5, h6, ha⟩⟩
  · obtain ⟨i, b0, m, G, h1, h2, h3, h4, h5, h6, h7⟩ := own k b c1 e1
    obtain ⟨i', b0', m', G', h1', h2', h3', h4', h5', h6', h7'⟩ := own j b' c2 e2
    rw [List.getElem?_map, h5] at s1; cases s1
    rw [List.getElem?_map, h5'] at s2; cases s2
    refine c.sep i i' b0 c1 b0' c2 _ _ F F' (fun e => ?_) h3 h3' h4 h4' o1 o2
    subst e
    -- one slot at two places
    exact absurd nd (ownIx_two ne h1 h1' h2 h2')
  · rw [List.getElem?_map] at h
    cases q : xs[i]? with
    | none => rw [q] at h; cases h
    | some x => rw [q] at h; cases x <;> cases h
where
  ownIx_two : ∀ {as : List AV} {xs : List Rs} {k j i : Nat} {c c' : Ct}, k ≠ j → as[k]? = some (AV.slot i) → as[j]? = some (AV.slot i) → xs[k]? = some (Rs.ow c) → xs[j]? = some (Rs.ow c') → ¬ (ownIx as xs).Nodup
    | [], _, _, _, _, _, _, _, h, _, _, _ => by simp at h
    | _ :: _, [], _, _, _, _, _, _, _, _, h, _ => by simp at h
    | a :: as, x :: xs, 0, 0, _, _, _, n, _, _, _, _ => absurd rfl n
    | a :: as, x :: xs, 0, j + 1, i, c, c', _, h1, h2, h3, h4 => by
      simp at h1 h3
      subst h1 h3
      have := ownIx_mem (as := as) (xs := xs) (k := j) (i := i) (c := c') (by simpa using h2) (by simpa using h4)
      simp [ownIx, this]
    | a :: as, x :: xs, k + 1, 0, i, c, c', _, h1, h2, h3, h4 => by
      simp at h2 h4
      subst h2 h4
      have := ownIx_mem (as := as) (xs := xs) (k := k) (i := i) (c := c) (by simpa using h1) (by simpa using h3)
      simp [ownIx, this]
    | a :: as, x :: xs, k + 1, j + 1, i, c, c', n, h1, h2, h3, h4 => by
      have := ownIx_two (as := as) (xs := xs) (k := k) (j := j) (i := i) (c := c) (c' := c') (fun e => n (by rw [e])) (by simpa using h1) (by simpa using h2) (by simpa using h3) (by simpa using h4)
      cases a <;> cases x <;> simp_all [ownIx]
/-- the slots behind a call -/
theorem call_out (c : Con K B H σ r O) (lk : looks r as = some xs) (pv : Paired (AvR K B σ) as vs) (nd : (ownIx as xs).Nodup) (na : (ownIx as xs).all (noAl r) = true) (hl : ys.length = xs.length) (s : Step B H (lent K B H O xs vs) B' H' Oc')
    (c' : Con K B' H' (vs.map some) (List.zipWith exitSl xs ys) Oc') :
    ∃ O', Step B H O B' H' O' ∧ Con K B' H' σ (putBack r as xs ys) O' ∧ Bor r σ (putBack r as xs ys) σ ∧ ∀ a, O' a → O a ∨ Oc' a := by
  have px := c.looks lk pv
  -- a slot that was lent
  have back : ∀ (i : Nat), i ∈ ownIx as xs → ∃ (k : Nat) (ct : Ct) (b : Bool) (y : Rs) (l : Addr), as[k]? = some (AV.slot i) ∧ xs[k]? = some (Rs.ow ct) ∧ r[i]? = some (Sl.own b ct) ∧ ys[k]? = some y ∧ vs[k]? = some (V.ref l) ∧ σ[i]? = some (some (V.ref l)) ∧ (putBack r as xs ys)[i]? = some (backSl b y) ∧ (List.zipWith exitSl xs ys)[k]? = some (backSl true y) := by
    intro i hi
    obtain ⟨k, ct, h1, h2⟩ := ownIx_of hi
    obtain ⟨a, g1, g2⟩ := looks_get lk h2
    rw [h1] at g1; cases g1
    obtain ⟨i', b, e, h3⟩ := look_ow g2
    cases e
    obtain ⟨l, F, q1, q2, q3⟩ := c.own i b ct h3
    obtain ⟨v, e1, e2⟩ := paired_get pv h1
    rw [show σ[i]? = some (some v) from e2] at q1; cases q1
    have hk : k < ys.length := by rw [hl]; exact (List.getElem?_eq_some_iff.mp h2).1
    refine ⟨k, ct, b, ys[k], l, h1, h2, h3, List.getElem?_eq_getElem hk, e1, e2, putBack_in nd h1 h2 (List.getElem?_eq_getElem hk) h3, ?_⟩
    rw [List.getElem?_zipWith, h2, List.getElem?_eq_getElem hk]
    rfl
  -- what was owned and not lent
  have kept : ∀ (i : Nat) b ct l F, i ∉ ownIx as xs → r[i]? = some (Sl.own b ct) → σ[i]? = some (some (V.ref l)) → OwnR K B H ct l F → ∀ a ∈ F, O a ∧ ¬ lent K B H O xs vs a ∧ H' a = H a ∧ B' a = none := by
    intro i b ct l F hi e hs o a ha
    obtain ⟨l0, F0, q1, q2, q3⟩ := c.own i b ct e
    rw [hs] at q1; cases q1
    rw [ownR_uniq o q2 fun _ _ => rfl] at q3
    have nl : ¬ lent K B H O xs vs a := fun ⟨_, k, c2, l2, F2, x1, x2, x3, x4⟩ => by
      obtain ⟨a2, g1, g2⟩ := looks_get lk x1
      obtain ⟨j, b2, e2, h3⟩ := look_ow g2
      subst e2
      obtain ⟨v, e1, e2⟩ := paired_get pv g1
      rw [x2] at e1; cases e1
      exact c.sep i j b ct b2 c2 l l2 F F2 (fun z => hi (z ▸ ownIx_mem g1 x1)) e h3 hs e2 o x3 a ha x4
    have oa := q3 a ha
    have ha0 := c.liv a oa
    refine ⟨oa, nl, ?_, s.nB a ha0 nl (c.off a oa)⟩
    cases q : H a with
    | none => exact absurd q ha0
    | some x => exact s.keep a x q nl
  have sB := s.sB
  refine ⟨fun a => (O a ∨ Oc' a) ∧ B' a = none ∧ H' a ≠ none, ⟨sB, fun a o h n => s.keep a o h fun z => n z.1, s.live, fun a h n b => s.nB a h (fun z => n z.1) b, fun a h => ?_⟩, ⟨⟨c'.sub, fun a h => h.2.1, fun a h => h.2.2, by rw [putBack_len, c.len], fun i b d e => ?_, fun i b ct e => ?_, fun i j b c1 b' c2 l l' F F' ne e1 e2 s1 s2 o1 o2 => ?_⟩, fun i j k h b rows l as2 h1 h2 h3 => ?_⟩, fun i x e p => ⟨?_, rfl⟩, fun a h => h.1⟩
  · rcases h.1 with h | h
    · exact .inl h
    · exact (s.nO a h).elim (fun z => .inl z.1) .inr
  · by_cases hi : i ∈ ownIx as xs
    · obtain ⟨k, ct, b0, y, l, h1, h2, h3, h4, h5, h6, h7, h8⟩ := back i hi
      rw [h7] at e
      cases y with
      | ow _ => cases e
      | fz d2 =>
        cases e
        obtain ⟨v, g1, g2⟩ := c'.frz k true d h8
        rw [List.getElem?_map, h5] at g1; cases g1
        exact ⟨_, h6, g2⟩
    · rw [putBack_out hi] at e
      obtain ⟨v, g1, g2⟩ := c.frz i b d e
      exact ⟨v, g1, dp_same sB g2⟩
  · by_cases hi : i ∈ ownIx as xs
    · obtain ⟨k, ct0, b0, y, l, h1, h2, h3, h4, h5, h6, h7, h8⟩ := back i hi
      rw [h7] at e
      cases y with
      | fz _ => cases e
      | ow c2 =>
        cases e
        obtain ⟨l2, F, g1, g2, g3⟩ := c'.own k true _ h8
        rw [List.getElem?_map, h5] at g1; cases g1
        exact ⟨_, F, h6, g2, fun a ha => ⟨.inr (g3 a ha), c'.off a (g3 a ha), c'.liv a (g3 a ha)⟩⟩
    · rw [putBack_out hi] at e
      obtain ⟨l, F, g1, g2, g3⟩ := c.own i b ct e
      have kp := kept i b ct l F hi e g1 g2
      exact ⟨l, F, g1, ownR_same g2 sB fun a ha => (kp a ha).2.2.1, fun a ha => ⟨.inl (kp a ha).1, (kp a ha).2.2.2, by rw [(kp a ha).2.2.1]; exact c.liv a (kp a ha).1⟩⟩
  · -- apart
    have mixed : ∀ (i j : Nat) b c1 b' c2 l l' F F', i ∈ ownIx as xs → j ∉ ownIx as xs → (putBack r as xs ys)[i]? = some (Sl.own b c1) → (putBack r as xs ys)[j]? = some (Sl.own b' c2) → σ[i]? = some (some (V.ref l)) → σ[j]? = some (some (V.ref l')) →
        OwnR K B' H' c1 l F → OwnR K B' H' c2 l' F' → ∀ a ∈ F, a ∉ F' := by
      intro i j b c1 b' c2 l l' F F' hi hj e1 e2 s1 s2 o1 o2 a ha hb
      obtain ⟨k, ct0, b0, y, l0, h1, h2, h3, h4, h5, h6, h7, h8⟩ := back i hi
      rw [h7] at e1
      cases y with
      | fz _ => cases e1
      | ow c3 =>
        cases e1
        obtain ⟨l2, F2, g1, g2, g3⟩ := c'.own k true _ h8
        rw [List.getElem?_map, h5] at g1; cases g1
        rw [h6] at s1; cases s1
        rw [ownR_uniq o1 g2 fun _ _ => rfl] at g3
        rw [putBack_out hj] at e2
        obtain ⟨l3, F3, q1, q2, q3⟩ := c.own j b' c2 e2
        rw [s2] at q1; cases q1
        have kp := kept j b' c2 _ F3 hj e2 s2 q2
        rw [ownR_uniq q2 o2 fun a ha => (kp a ha).2.2.1] at hb
        rcases s.nO a (g3 a ha) with z | z
        · exact (kp a hb).2.1 z
        · exact c.liv a (kp a hb).1 z
    by_cases hi : i ∈ ownIx as xs
    · by_cases hj : j ∈ ownIx as xs
      · obtain ⟨k, ct0, b0, y, l0, h1, h2, h3, h4, h5, h6, h7, h8⟩ := back i hi
        obtain ⟨k', ct0', b0', y', l0', h1', h2', h3', h4', h5', h6', h7', h8'⟩ := back j hj
        rw [h7] at e1
        rw [h7'] at e2
        rw [h6] at s1; cases s1
        rw [h6'] at s2; cases s2
        cases y with
        | fz _ => cases e1
        | ow c3 =>
          cases y' with
          | fz _ => cases e2
          | ow c3' =>
            cases e1
            cases e2
            refine c'.sep k k' true _ true _ _ _ F F' (fun z => ?_) h8 h8' (by rw [List.getElem?_map, h5]; rfl) (by rw [List.getElem?_map, h5']; rfl) o1 o2
            subst z
            rw [h1] at h1'; cases h1'
            exact ne rfl
      · exact mixed i j b c1 b' c2 l l' F F' hi hj e1 e2 s1 s2 o1 o2
    · by_cases hj : j ∈ ownIx as xs
      · exact fun a ha hb => mixed j i b' c2 b c1 l' l F' F hj hi e2 e1 s2 s1 o2 o1 a hb ha
      · rw [putBack_out hi] at e1
        rw [putBack_out hj] at e2
        obtain ⟨l3, F3, q1, q2, q3⟩ := c.own i b c1 e1
        rw [s1] at q1; cases q1
        obtain ⟨l4, F4, q1', q2', q3'⟩ := c.own j b' c2 e2
        rw [s2] at q1'; cases q1'
        have kp := kept i b c1 _ F3 hi e1 s1 q2
        have kp' := kept j b' c2 _ F4 hj e2 s2 q2'
        rw [ownR_uniq q2 o1 fun a ha => (kp a ha).2.2.1, ownR_uniq q2' o2 fun a ha => (kp' a ha).2.2.1]
        exact c.sep i j b c1 b' c2 _ _ _ _ ne e1 e2 s1 s2 q2 q2'
  · -- a slot that looks into another one
    have hi : i ∉ ownIx as xs := fun hi => by
      obtain ⟨k', ct, b0, y, l0, g1, g2, g3, g4, g5, g6, g7, g8⟩ := back i hi
      rw [g7] at h
      cases y <;> cases h
    rw [putBack_out hi] at h
    have hj : j ∉ ownIx as xs := fun hj => absurd h (noAl_of (List.all_eq_true.mp na j hj))
    rw [putBack_out hj] at h1
    obtain ⟨l0, F, g1, g2, g3⟩ := c.own j b _ h1
    rw [h2] at g1; cases g1
    rw [(kept j b _ _ F hj h1 h2 g2 _ (ownR_mem g2)).2.2.1] at h3
    exact c.al i j k h b rows _ as2 h1 h2 h3
  · -- a lent parameter of ours
    by_cases hi : i ∈ ownIx as xs
    · obtain ⟨k, ct0, b0, y, l0, h1, h2, h3, h4, h5, h6, h7, h8⟩ := back i hi
      rw [h3] at e; cases e
      have p : b0 = true := p
      subst p
      exact ⟨_, h7, by cases y <;> rfl⟩
    · exact ⟨x, by rw [putBack_out hi]; exact e, p⟩
end
/-- what a def promises, by its meaning -/
def spD (K : PySem.W.Frag) (mg : Str → Option Value) (f : Sem) (n : Nat) : Sp := fun vs H Q E => vs.length = n ∧ ∃ B O xs, Con K B H (vs.map some) (xs.map toSl) O ∧ ∃ o ys, f xs = some (o, ys) ∧ ys.length = xs.length ∧ match o with
  | .ok rv => ∀ B' H' O' v, Step B H O B' H' O' → Con K B' H' (vs.map some) (List.zipWith exitSl xs ys) O' → RvR K H B' H' O' rv v → Q v H'
  | .exc x => ∀ B' H' O' c dx, Step B H O B' H' O' → Con K B' H' (vs.map some) (List.zipWith exitSl xs ys) O' → XnR K mg x c dx H' → E c dx H'
section
variable {X : Cx} {W : WX}
theorem de_call {k : Nat} {f : Addr} {fd : FuncData} {ps : List Str} {sem : Sem} {x : Str} {p pos : Pos} {e : Expr} {es : List Expr} {ms : List (M AV)} (tk : L2N.Takes X W)
    (F : FnOk X.prog X.w X.K X.mg X.base (L2N.CX X.prog X.w) k f fd ps (spD X.K X.mg sem ps.length)) (hr : Room k X.A) (hg : Gl X x) (hm : X.mg x = some (.ref f)) (hk : PySem.W.keepIn X.K (.ref f) = true) (hb : Binds X.K fd ps [])
    (hn : ms.length = ps.length) (ha : DA X W (e :: es) (oL ms)) (hdb : (x == ("__debug__" : Str)) = false := by decide) (he : starEach (e :: es) X.env = (false, eval e X.env) :: starEach es X.env := by rfl) (hpl : (backTo pos (starEach es X.env)).any (·.1) = false := by rfl) :
    DE X W (.Call (.Name x p) (e :: es) [] pos) (mCall sem ms) := pe_weak (pe_callS F hr hg hm hk hb (fun σ => L2N.passAt tk σ) ha hdb he hpl) fun σ H Q ⟨B, r, O, h⟩ => by
  have olen : ∀ (ms : List (M AV)) (r : Ro) as r', oL ms r = some (.ok as, r') → as.length = ms.length := by
    intro ms
    induction ms with
    | nil => intro r as r' e; cases e; rfl
    | cons m ms ih =>
      intro r as r' e
      unfold oL M.bind at e
      split at e
      · cases e
      · rename_i a r1 q
        simp only [M.bind] at e
        split at e
        · cases e
        · rename_i as2 r2 q2
          cases e
          rw [List.length_cons, ih _ _ _ q2, List.length_cons]
        · cases e
      · cases e
  obtain ⟨c0, o0, r0, e0, p0⟩ := h
  have hlen : ∀ as r1, oL ms r = some (.ok as, r1) → as.length = ps.length := fun as r1 q => (olen ms r as r1 q).trans hn
  have h : At (Cx.g X) W (mCall sem ms) (rV (Cx.g X)) B r O σ H Q := ⟨c0, o0, r0, e0, p0⟩
  refine ⟨B, r, O, c0, ?_⟩
  unfold mCall M.bind at e0
  cases q : oL ms r with
  | none => rw [q] at e0; cases e0
  | some z =>
    obtain ⟨o1, r1⟩ := z
    rw [q] at e0
    refine ⟨o1, r1, rfl, ?_⟩
    cases o1 with
    | exc x => cases e0; exact p0
    | ok as =>
      intro B1 H1 O1 vs s1 c1 b1 x1
      simp only at e0
      cases q2 : looks r1 as with
      | none => rw [q2] at e0; cases e0
      | some xs =>
        rw [q2] at e0
        simp only at e0
        split at e0
        · rename_i nd
          cases q3 : sem xs with
          | none => rw [q3] at e0; cases e0
          | some z3 =>
            obtain ⟨o3, ys⟩ := z3
            rw [q3] at e0
            simp only at e0
            split at e0
            · rename_i hl
              cases e0
              have x1 : Paired (AvR X.K B1 σ) as vs := x1
              refine ⟨by rw [← x1.length]; exact hlen as r1 q, B1, lent X.K B1 H1 O1 xs vs, xs, call_in c1 q2 x1 nd.1, o0, ys, q3, hl, ?_⟩
              cases o0 with
              | ok rv =>
                intro B' H' O' v s2 c2 x2
                obtain ⟨O2, s3, c3, b3, ho⟩ := call_out c1 q2 x1 nd.1 nd.2 hl s2 c2
                refine p0 B' H' O2 v (s1.trans s3) c3 (b1.trans b3) (later_rV H H1 B' H' O2 σ rv v s1.live ?_)
                cases rv with
                | val d => exact x2
                | new ct =>
                  obtain ⟨l, F, e1, o, hF⟩ := x2
                  refine ⟨l, F, e1, o, fun a ha => ⟨(hF a ha).1, (hF a ha).2.1, fun z => ?_⟩⟩
                  rcases ho a z with z | z
                  · exact c1.liv a z (hF a ha).1
                  · exact (hF a ha).2.2 z
              | exc x =>
                intro B' H' O' c dx s2 c2 x2
                obtain ⟨O2, s3, c3, b3, ho⟩ := call_out c1 q2 x1 nd.1 nd.2 hl s2 c2
                exact p0 B' H' O2 c dx (s1.trans s3) c3 (b1.trans b3) x2
            · cases e0
        · cases e0
end
end DL
end

section
namespace DL
open PySem PySem.Spec PyProof.Rows L2
/-- what a statement's end has to bring -/
def PostS (G : Ct2) (W : WX) (B : Hp) (r : Ro) (O : Addr → Prop) (σ : L2.St) (H : Hp) (D : Ends) (r' : Ro) : SO → Prop
  | .nx => ∀ B' H' O' σ', Step B H O B' H' O' → Con G.K B' H' σ' r' O' → Bor r σ r' σ' → D.nx σ' H'
  | .brk => ∀ B' H' O' σ', Step B H O B' H' O' → Con G.K B' H' σ' r' O' → Bor r σ r' σ' → D.bk σ' H'
  | .cnt => ∀ B' H' O' σ', Step B H O B' H' O' → Con G.K B' H' σ' r' O' → Bor r σ r' σ' → D.ct σ' H'
  | .ret v => ∀ B' H' O' σ' x, Step B H O B' H' O' → Con G.K B' H' σ' r' O' → Bor r σ r' σ' → RvR G.K H B' H' O' v x → D.rt x H'
  | .rets i => ∀ B' H' O' σ' x, Step B H O B' H' O' → Con G.K B' H' σ' r' O' → Bor r σ r' σ' → σ'[i]? = some (some x) → D.rt x H'
  | .exc x => ∀ B' H' O' σ' c dx, Step B H O B' H' O' → Con G.K B' H' σ' r' O' → Bor r σ r' σ' → XnR G.K G.mg x c dx H' → W c dx σ' H'
/-- a statement's meaning from a state, with its ends -/
def AtS (G : Ct2) (W : WX) (m : S) (B : Hp) (r : Ro) (O : Addr → Prop) (σ : L2.St) (H : Hp) (D : Ends) : Prop :=
  Con G.K B H σ r O ∧ ∃ o r', m r = some (o, r') ∧ PostS G W B r O σ H D r' o
def tS (G : Ct2) (W : WX) (m : S) : TS := fun D σ H => ∃ B r O, AtS G W m B r O σ H D
def DS (X : Cx) (W : WX) (st : Stmt) (m : S) : Prop := PS X st (tS (Cx.g X) W m)
def DSs (X : Cx) (W : WX) (st : List Stmt) (m : S) : Prop := PSs X st (tS (Cx.g X) W m)
theorem pss_weak {X : Cx} {e : List Stmt} {t t' : TS} (h : PSs X e t) (w : ∀ D σ H, t' D σ H → t D σ H) : PSs X e t' := ⟨fun pins s σ H D I q => h.run pins s σ H D I (w D σ H q)⟩
section
variable {X : Cx} {W : WX} {G : Ct2}
theorem tS.of {m : S} {B : Hp} {r : Ro} {O : Addr → Prop} {σ : L2.St} {H : Hp} {D : Ends} (h : AtS G W m B r O σ H D) : tS G W m D σ H := ⟨B, r, O, h⟩
/-- ahead of a statement something else went -/
theorem AtS.after {m : S} {B B1 : Hp} {r r1 : Ro} {O O1 : Addr → Prop} {σ σ1 : L2.St} {H H1 : Hp} {D : Ends} {o : SO} {r' : Ro} (s1 : Step B H O B1 H1 O1) (c1 : Con G.K B1 H1 σ1 r1 O1) (b1 : Bor r σ r1 σ1) (e : m r1 = some (o, r'))
    (p : PostS G W B r O σ H D r' o) : AtS G W m B1 r1 O1 σ1 H1 D := by
  refine ⟨c1, o, r', e, ?_⟩
  cases o with
  | nx => exact fun B' H' O' σ' s c b => p B' H' O' σ' (s1.trans s) c (b1.trans b)
  | brk => exact fun B' H' O' σ' s c b => p B' H' O' σ' (s1.trans s) c (b1.trans b)
  | cnt => exact fun B' H' O' σ' s c b => p B' H' O' σ' (s1.trans s) c (b1.trans b)
  | ret v => exact fun B' H' O' σ' x s c b y => p B' H' O' σ' x (s1.trans s) c (b1.trans b) (later_rV (G := G) H H1 B' H' O' σ' v x s1.live y)
  | rets i => exact fun B' H' O' σ' x s c b y => p B' H' O' σ' x (s1.trans s) c (b1.trans b) y
  | exc x => exact fun B' H' O' σ' k dx s c b y => p B' H' O' σ' k dx (s1.trans s) c (b1.trans b) y
theorem AtS.seq {a b : S} {B : Hp} {r : Ro} {O : Addr → Prop} {σ : L2.St} {H : Hp} {D : Ends} (h : AtS G W (sSeq a b) B r O σ H D) : AtS G W a B r O σ H { D with nx := tS G W b D } := by
  obtain ⟨c, o, r', e, p⟩ := h
  refine ⟨c, ?_⟩
  unfold sSeq at e
  cases q : a r with
  | none => rw [q] at e; cases e
  | some z =>
    obtain ⟨o1, r1⟩ := z
    rw [q] at e
    refine ⟨o1, r1, rfl, ?_⟩
    cases o1 with
    | nx => exact fun B1 H1 O1 σ1 s1 c1 b1 => tS.of (AtS.after s1 c1 b1 e p)
    | brk => cases e; exact p
    | cnt => cases e; exact p
    | ret v => cases e; exact p
    | rets i => cases e; exact p
    | exc x => cases e; exact p
/-- an expression ahead -/
theorem AtS.ex {α β : Type} {m : M α} {k : α → S} {R : Rl α β} {B : Hp} {r : Ro} {O : Addr → Prop} {σ : L2.St} {H : Hp} {D : Ends} (h : AtS G W (sEx m k) B r O σ H D) :
    At G W m R B r O σ H fun y H1 => ∃ a B1 r1 O1, Step B H O B1 H1 O1 ∧ Bor r σ r1 σ ∧ R H B1 H1 O1 σ a y ∧ Con G.K B1 H1 σ r1 O1 ∧ ∃ o r', k a r1 = some (o, r') ∧ PostS G W B r O σ H D r' o := by
  obtain ⟨c, o, r', e, p⟩ := h
  refine ⟨c, ?_⟩
  unfold sEx at e
  cases q : m r with
  | none => rw [q] at e; cases e
  | some z =>
    obtain ⟨o1, r1⟩ := z
    rw [q] at e
    refine ⟨o1, r1, rfl, ?_⟩
    cases o1 with
    | ok a => exact fun B1 H1 O1 y s1 c1 b1 x1 => ⟨a, B1, r1, O1, s1, b1, x1, c1, o, r', e, p⟩
    | exc x =>
      cases e
      exact fun B1 H1 O1 k dx s1 c1 b1 x1 => p B1 H1 O1 σ k dx s1 c1 b1 x1
theorem dss_nil : DSs X W [] sNx := pss_weak pss_nil fun D σ H ⟨B, r, O, c, o, r', e, p⟩ => by
  cases e
  exact p B H O σ .refl c .refl
theorem dss_cons {st : Stmt} {sts : List Stmt} {a b : S} (h : DS X W st a) (t : DSs X W sts b) : DSs X W (st :: sts) (sSeq a b) := pss_weak (pss_cons h t) fun D σ H ⟨B, r, O, h⟩ => tS.of h.seq
theorem dss_one {st : Stmt} {a : S} (h : DS X W st a) : DSs X W [st] a := pss_one h
theorem ds_ret {e : Expr} {pos : Pos} {m : M RV} (h : DE X W e m) : DS X W (.Return (some e) pos) (sRet m) := ps_weak (ps_ret h) fun D σ H ⟨B, r, O, h⟩ => by
  refine tG.of (h.ex.mono ?_)
  rintro y H1 ⟨v, B1, r1, O1, s1, b1, x1, c1, o, r', e, p⟩
  cases e
  exact p B1 H1 O1 σ y s1 c1 b1 x1
theorem ds_retS {e : Expr} {pos : Pos} {i : Nat} (h : PE X e (tVar i)) : DS X W (.Return (some e) pos) (sRetS i) := ps_weak (ps_ret h) fun D σ H ⟨B, r, O, c, o, r', e, p⟩ => by
  have other : sRetS i r = sRet (mRd i) r → tVar i σ H D.rt := fun e2 => by
    have h : AtS (Cx.g X) W (sRet (mRd i)) B r O σ H D := ⟨c, o, r', e2.symm.trans e, p⟩
    refine rd_var (tG.of (h.ex.mono ?_))
    rintro y H1 ⟨v, B1, r1, O1, s1, b1, x1, c1, o, r', e, p⟩
    cases e
    exact p B1 H1 O1 σ y s1 c1 b1 x1
  cases q : r[i]? with
  | none => exact other (by unfold sRetS; rw [q])
  | some x =>
    cases x with
    | own b ct =>
      cases b with
      | false =>
        unfold sRetS at e
        rw [q] at e
        cases e
        obtain ⟨l, F, h1, h2, h3⟩ := c.own i _ _ q
        exact ⟨_, h1, p B H O σ _ .refl c .refl h1⟩
      | true => exact other (by unfold sRetS; rw [q])
    | _ => exact other (by unfold sRetS; rw [q])
theorem ds_if {c : Expr} {a b : List Stmt} {pos : Pos} {t : M Bool} {m n : S} (hc : DB X W c t) (ha : DSs X W a m) (hb : DSs X W b n) : DS X W (.If c a b pos) (sIf t m n) := ps_weak (ps_if hc ha hb) fun D σ H ⟨B, r, O, h⟩ => by
  refine tG.of (h.ex.mono ?_)
  rintro y H1 ⟨v, B1, r1, O1, s1, b1, x1, c1, o, r', e, p⟩
  cases x1
  cases y with
  | true => exact iteT (tS.of (AtS.after s1 c1 b1 e p))
  | false => exact iteF (tS.of (AtS.after s1 c1 b1 e p))
theorem ds_expr {e : Expr} {pos : Pos} {m : M RV} (h : DE X W e m) (hs : swapsWith e none pos.line X.env = pure false := by rfl) : DS X W (.Expr e pos) (sDrop m) := ps_weak (ps_expr h hs) fun D σ H ⟨B, r, O, h⟩ => by
  refine tG.of (h.ex.mono ?_)
  rintro y H1 ⟨v, B1, r1, O1, s1, b1, x1, c1, o, r', e, p⟩
  cases e
  exact p B1 H1 O1 σ s1 c1 b1
/-- the slot i gets a result -/
theorem put_ok {K : PySem.W.Frag} {B H0 H : Hp} {σ : L2.St} {r r' : Ro} {O : Addr → Prop} {i : Nat} {v : RV} {x : V} {o : SO} (c : Con K B H σ r O) (e : putSl i v r = some (o, r')) (h : RvR K H0 B H O v x) (live : ∀ p, H0 p ≠ none → H p ≠ none) :
    o = .nx ∧ ∃ O', Con K B H (σ.set i (some x)) r' O' ∧ Bor r σ r' (σ.set i (some x)) ∧ ∀ a, O' a → O a ∨ H0 a = none := by
  unfold putSl at e
  split at e
  · cases e
  · rename_i y hy
    split at e
    · cases e
    · rename_i np
      have hi : i < σ.length := by
        rw [← c.len]
        exact (List.getElem?_eq_some_iff.mp hy).1
      have bor : ∀ z, Bor r σ (r.set i z) (σ.set i (some x)) := fun z j w hw pw => by
        have hj : j ≠ i := fun e => by
          subst e
          rw [hy] at hw; cases hw
          cases y <;> exact np pw
        exact ⟨⟨w, by rw [List.getElem?_set_ne (Ne.symm hj)]; exact hw, pw⟩, List.getElem?_set_ne (Ne.symm hj)⟩
      cases v with
      | val d =>
        cases e
        exact ⟨rfl, O, c.setF hi h, bor _, fun a h => .inl h⟩
      | new ct =>
        have e' : (∀ rows, ct = .ll rows → noAl r i = true) ∧ o = .nx ∧ r' = r.set i (.own false ct) := by
          cases ct with
          | ll rows =>
            simp only at e
            split at e
            · rename_i q; cases e; exact ⟨fun _ _ => q, rfl, rfl⟩
            · cases e
          | _ => cases e; exact ⟨fun _ z => (by cases z), rfl, rfl⟩
        obtain ⟨hal, rfl, rfl⟩ := e'
        obtain ⟨F, hF, c'⟩ := c.setN (b := false) hi h hal
        exact ⟨rfl, _, c', bor _, fun a h => h.elim .inl fun h => .inr (hF a h).1⟩
theorem put_step {B H B1 H1 : Hp} {O O1 O' : Addr → Prop} (s : Step B H O B1 H1 O1) (h : ∀ a, O' a → O1 a ∨ H a = none) : Step B H O B1 H1 O' :=
  ⟨s.sB, s.keep, s.live, s.nB, fun a z => (h a z).elim (s.nO a) .inr⟩
theorem ds_setG {st : Stmt} {i : Nat} {m : M RV} (h : PS X st (tAsg (tG (Cx.g X) W m (rV (Cx.g X))) (gName i))) : DS X W st (sSet i m) := ps_weak h fun D σ H ⟨B, r, O, h⟩ => by
  refine tG.of (h.ex.mono ?_)
  rintro y H1 ⟨v, B1, r1, O1, s1, b1, x1, c1, o, r', e, p⟩
  obtain ⟨rfl, O2, c2, b2, h2⟩ := put_ok c1 e x1 s1.live
  exact p B1 H1 O2 _ (put_step s1 h2) c2 (b1.trans b2)
/-- name = e -/
theorem ds_set {i : Nat} {x : Str} {e : Expr} {pos pos' : Pos} {m : M RV} (hN : X.N.Nodup) (hi : X.N[i]? = some x) (hx : Loc X.env.scope x) (he : DE X W e m) (hs : swapsWith e (some (.Name x pos')) pos.line X.env = pure false := by rfl)
    (hf : X.fn x = true ∨ X.env.scope.names.lookup x = some .local := by first | exact .inl rfl | exact .inr rfl | assumption) : DS X W (.Assign [.Name x pos'] e pos) (sSet i m) := ds_setG (ps_set hN hi hx he hs hf)
end
end DL
end

section
namespace DL
open PySem
def forS (set : D → S) (body : S) : List D → S
  | [] => sNx
  | d :: ds => fun r => match set d r with
    | some (.nx, r1) => match body r1 with
      | some (.nx, r2) => forS set body ds r2
      | some (.cnt, r2) => forS set body ds r2
      | some (.brk, r2) => some (.nx, r2)
      | z => z
    | _ => none
def sFor (mi : M (List D)) (set : D → S) (body : S) : S := sEx mi (forS set body)
/-- several targets -/
def sets : List (D → S) → List D → S
  | [], [] => sNx
  | f :: fs, d :: ds => sSeq (f d) (sets fs ds)
  | _, _ => fun _ => none
def setN (i : Nat) : D → S := fun d => putSl i (.val d)
def setT (fs : List (D → S)) : D → S
  | .tuple ds => sets fs ds
  | _ => fun _ => none
/-- a comprehension's own names are forgotten -/
def wipeR (r : Ro) : List Nat → Ro
  | [] => r
  | v :: vs => (wipeR r vs).set v .non
def anyPin (r : Ro) (vs : List Nat) : Bool := vs.any fun i => match r[i]? with
  | some x => putSl.pinnedB x
  | none => false
def lcM (vs : List Nat) (set : D → S) (t : M Bool) (e : M RV) : List D → List D → Ro → Option (List D × Ro)
  | [], acc, r => some (acc, r)
  | d :: ds, acc, r => match set d r with
    | some (.nx, r1) => match t r1 with
      | some (.ok true, r2) => match mFz e r2 with
        | some (.ok x, r3) => if acc.length < lineD then lcM vs set t e ds (acc ++ [x]) (wipeR r3 vs) else none
        | _ => none
      | some (.ok false, r2) => lcM vs set t e ds acc (wipeR r2 vs)
      | _ => none
    | _ => none
def mLc (vs : List Nat) (mi : M (List D)) (set : D → S) (t : M Bool) (e : M RV) : M RV := mi.bind fun ds => fun r =>
  if anyPin r vs then none else (lcM vs set t e ds [] (wipeR r vs)).map fun p => (.ok (.new (.lst p.1)), p.2)
/-- what is walked -/
def mRow (m : M RV) : M (List D) := (mFz m).bind fun d => M.of (rowOf d)
def rng (lo hi : Int) : List D := (List.range (hi - lo).toNat).map fun i => .int (lo + (i : Nat))
def okR (i : Int) : Bool := decide (-(2 ^ 62) ≤ i) && decide (i < 2 ^ 62)
def gRng1 : List Rs → Option (List D)
  | [.fz (.int j)] => if okR j then some (rng 0 j) else none
  | _ => none
def mOpL (g : List Rs → Option (List D)) (ms : List (M AV)) : M (List D) := (oL ms).bind fun as => fun r => match looks2 r as with
  | none => none
  | some xs => (g xs).map fun v => (.ok v, r)
def mYes : M Bool := M.ret true
end DL
end

section
namespace DL
open PySem PySem.Spec PyProof.Rows L2
/-- a pair that a walk has just made: its items alone are data -/
def Dw (K : PySem.W.Frag) (B : Hp) (v : V) (d : D) : Prop := ∃ a xs ds, v = .ref a ∧ d = .tuple ds ∧ SqT K B a xs ∧ DqAll K B xs ds
/-- the iterator yields the items ds, as long as what stood still stands -/
structure Serves (K : PySem.W.Frag) (lo : Bool) (J : It) (B0 : Hp) (ds : List D) : Prop where
  stop : ∀ H, Same B0 H → J.stop ds.length H
  go : ∀ i H, i < ds.length → Same B0 H → J.go i H
  yld : ∀ i H x H' d, ds[i]? = some d → Same B0 H → J.yld i H x H' → ∀ B, Same B0 B → Same B H → (H' = H ∧ Dq K B x d) ∨ (lo = true ∧ ∃ T vs, H T = none ∧ H' = upd H T (.tup vs) ∧ Dw K (upd B T (.tup vs)) x d)
def rI (G : Ct2) (lo : Bool) : Rl (List D) It := fun _ B' _ _ _ ds J => Serves G.K lo J B' ds
theorem later_rI {G : Ct2} {lo : Bool} : Later (rI G lo) := fun _ _ _ _ _ _ _ _ _ h => h
def DI (X : Cx) (W : WX) (lo : Bool) (tg iter : Expr) (m : M (List D)) : Prop := PI X tg iter (tG (Cx.g X) W m (rI (Cx.g X) lo))
theorem pi_weak {X : Cx} {tg e : Expr} {t t' : TI} (h : PI X tg e t) (w : ∀ σ H Q, t' σ H Q → t σ H Q) : PI X tg e t' := ⟨fun pins s σ H Q I q => h.run pins s σ H Q I (w σ H Q q)⟩
/-- a target's store of data: only the slots ix change -/
def gD (K : PySem.W.Frag) (lo : Bool) (ix : List Nat) (set : D → S) : TG := fun v σ H Q => ∃ B r O d r', Con K B H σ r O ∧ (Dq K B v d ∨ (lo = true ∧ Dw K B v d)) ∧ set d r = some (.nx, r') ∧
  ∀ σ', Con K B H σ' r' O → Bor r σ r' σ' → (∀ j : Nat, j ∉ ix → σ'[j]? = σ[j]?) → σ'.length = σ.length → Q σ' H
def DG (X : Cx) (lo : Bool) (tg : Expr) (ix : List Nat) (set : D → S) : Prop := PG X tg (gD X.K lo ix set)
theorem pg_weak {X : Cx} {e : Expr} {t t' : TG} (h : PG X e t) (w : ∀ v σ H Q, t' v σ H Q → t v σ H Q) : PG X e t' := ⟨fun pins s σ H v u Q I r q => h.run pins s σ H v u Q I r (w v σ H Q q)⟩
theorem pgs_weak {X : Cx} {e : List Expr} {t t' : TGs} (h : PGs X e t) (w : ∀ v σ H Q, t' v σ H Q → t v σ H Q) : PGs X e t' := ⟨fun pins s σ H v u Q I r q => h.run pins s σ H v u Q I r (w v σ H Q q)⟩
theorem dg_name {X : Cx} {i : Nat} {x : Str} {pos : Pos} (hN : X.N.Nodup) (hi : X.N[i]? = some x) (hx : Loc X.env.scope x) (hf : X.fn x = true ∨ X.env.scope.names.lookup x = some .local := by first | exact .inl rfl | exact .inr rfl | assumption) : DG X false (.Name x pos) [i] (setN i) :=
  pg_weak (pg_name hN hi hx hf) fun v σ H Q ⟨B, r, O, d, r', c, h, e, q⟩ => by
    have h : Dq X.K B v d := h.elim id fun z => nomatch z.1
    have e' : putSl i (.val d) r = some (.nx, r') := e
    unfold putSl at e'
    split at e'
    · cases e'
    · rename_i y hy
      split at e'
      · cases e'
      · rename_i np
        cases e'
        have hi : i < σ.length := by rw [← c.len]; exact (List.getElem?_eq_some_iff.mp hy).1
        refine q _ (c.setF hi h) (fun j w hw pw => ?_) (fun j hj => List.getElem?_set_ne (fun e => hj (by simp [e]))) List.length_set
        have hj : j ≠ i := fun e => by
          subst e
          rw [hy] at hw; cases hw
          cases y <;> exact np pw
        exact ⟨⟨w, by rw [List.getElem?_set_ne (Ne.symm hj)]; exact hw, pw⟩, List.getElem?_set_ne (Ne.symm hj)⟩
def gDs (K : PySem.W.Frag) (ix : List Nat) (fs : List (D → S)) : TGs := fun vs σ H Q => ∃ B r O ds r', Con K B H σ r O ∧ DqAll K B vs ds ∧ sets fs ds r = some (.nx, r') ∧
  ∀ σ', Con K B H σ' r' O → Bor r σ r' σ' → (∀ j : Nat, j ∉ ix → σ'[j]? = σ[j]?) → σ'.length = σ.length → Q σ' H
def DGs (X : Cx) (tgs : List Expr) (ix : List Nat) (fs : List (D → S)) : Prop := PGs X tgs (gDs X.K ix fs)
theorem dgs_nil {X : Cx} : DGs X [] [] [] := pgs_weak pgs_nil fun v σ H Q ⟨B, r, O, ds, r', c, h, e, q⟩ => by
  cases h with
  | nil =>
    cases e
    exact ⟨rfl, q σ c .refl (fun _ _ => rfl) rfl⟩
  | cons _ _ => cases e
theorem dgs_cons {X : Cx} {t : Expr} {ts : List Expr} {ix jx : List Nat} {f : D → S} {fs : List (D → S)} (h1 : DG X false t ix f) (h2 : DGs X ts jx fs) (hs : List.map (fun x => x.snd) (assignEach (t :: ts) X.env) = assign t X.env :: List.map (fun x => x.snd) (assignEach ts X.env) := by rfl) : DGs X (t :: ts) (ix ++ jx) (f :: fs) := pgs_weak (pgs_cons h1 h2 hs) fun v σ H Q ⟨B, r, O, ds, r', c, h, e, q⟩ => by
  cases h with
  | nil => cases e
  | @cons v vs d ds hd hds =>
    have e' : sSeq (f d) (sets fs ds) r = some (.nx, r') := e
    unfold sSeq at e'
    cases q1 : f d r with
    | none => rw [q1] at e'; cases e'
    | some z =>
      obtain ⟨o1, r1⟩ := z
      rw [q1] at e'
      cases o1 with
      | nx =>
        refine ⟨v, vs, rfl, B, r, O, d, r1, c, .inl hd, q1, fun σ1 c1 b1 k1 l1 => ⟨B, r1, O, ds, r', c1, hds, e', fun σ2 c2 b2 k2 l2 => q σ2 c2 (b1.trans b2) (fun j hj => ?_) (l2.trans l1)⟩⟩
        simp only [List.mem_append, not_or] at hj
        rw [k2 j hj.2, k1 j hj.1]
      | _ => cases e'
theorem sets_len : ∀ {fs : List (D → S)} {ds : List D} {r r' : Ro} {o : SO}, sets fs ds r = some (o, r') → o = .nx → ds.length = fs.length
  | [], [], _, _, _, _, _ => rfl
  | [], _ :: _, _, _, _, e, _ => by cases e
  | _ :: _, [], _, _, _, e, _ => by cases e
  | f :: fs, d :: ds, r, r', o, e, ho => by
    have e' : sSeq (f d) (sets fs ds) r = some (o, r') := e
    unfold sSeq at e'
    split at e'
    · rename_i r1 q
      rw [List.length_cons, List.length_cons, sets_len e' ho]
    · rename_i n
      subst ho
      exact (n r' e').elim
theorem dg_tup {X : Cx} {lo : Bool} {es : List Expr} {k : Nat} {pos : Pos} {ix : List Nat} {fs : List (D → S)} (hc : X.calm = true) (h : DGs X es ix fs)
    (hn : (assignEach es X.env).length = fs.length := by rfl) (hst : (assignEach es X.env).findIdx? (·.1) = none := by rfl) : DG X lo (.Tuple es k pos) ix (setT fs) := pg_weak (pg_tup hc h hn hst) fun v σ H Q ⟨B, r, O, d, r', c, hd, e, q⟩ => by
  cases d with
  | tuple ds =>
    obtain ⟨a, xs, rfl, hs, ha⟩ : ∃ a xs, v = .ref a ∧ SqT X.K B a xs ∧ DqAll X.K B xs ds := by
      rcases hd with hd | ⟨_, a, xs, es, rfl, e, h1, h2⟩
      · obtain ⟨a, xs, rfl, h1, h2⟩ := dp_tuple hd
        exact ⟨a, xs, rfl, h1.sq, h2⟩
      · cases e
        exact ⟨a, xs, rfl, h1, h2⟩
    have e' : sets fs ds r = some (.nx, r') := e
    exact ⟨a, xs, rfl, sqt_same c.sub hs, by rw [ha.length]; exact sets_len e' rfl, B, r, O, ds, r', c, ha, e', q⟩
  | _ => cases e
/-- a walk of a loop -/
theorem ds_for {lo : Bool} {tg iter : Expr} {body : List Stmt} {pos : Pos} {X : Cx} {W : WX} {mi : M (List D)} {ix : List Nat} {set : D → S} {mb : S} (hp : PassesOwn (model X.prog X.w) X.A X.env X.xe) (hc : X.calm = true) (hi : DI X W lo tg iter mi) (hg : DG X lo tg ix set) (hb : DSs X W body mb)
    (hs : ∀ x, foldedSetIterable iter X.env x = pure x := by intro _; rfl) : DS X W (.For tg iter body [] pos) (sFor mi set mb) := ps_weak (ps_for hp hc hi hg hb hs) fun D σ H ⟨B, r, O, h⟩ => by
  refine tG.of (h.ex.mono ?_)
  rintro J H1 ⟨ds, B1, r1, O1, s1, b1, x1, c1, o, r', e, p⟩
  refine ⟨fun i m σ' H' => m = ds.length - i ∧ i ≤ ds.length ∧ ∃ B' r2 O', Step B1 H1 O1 B' H' O' ∧ Con X.K B' H' σ' r2 O' ∧ Bor r1 σ r2 σ' ∧ forS set mb (ds.drop i) r2 = some (o, r'), ⟨ds.length, by simp, Nat.zero_le _, B1, r1, O1, .refl, c1, .refl, e⟩, ?_⟩
  rintro i m σ2 H2 ⟨rfl, hi2, B2, r2, O2, s2, c2, b2, e2⟩
  have sv : Serves X.K lo J B1 ds := x1
  have same : Same B1 H2 := s2.sB.trans c2.sub
  by_cases hlt : i < ds.length
  · refine .inr ⟨sv.go i H2 hlt same, fun σ' H' => i + 1 ≤ ds.length ∧ ∃ B' r2 O', Step B1 H1 O1 B' H' O' ∧ Con X.K B' H' σ' r2 O' ∧ Bor r1 σ r2 σ' ∧ forS set mb (ds.drop (i + 1)) r2 = some (o, r'), fun σ' H' z => ⟨ds.length - (i + 1), by omega, rfl, z⟩, fun x H3 y => ?_⟩
    have ed : ds.drop i = ds[i] :: ds.drop (i + 1) := (List.drop_eq_getElem_cons hlt)
    rw [ed] at e2
    -- the item
    obtain ⟨B3, s3, c3, d3⟩ : ∃ B3, Step B2 H2 O2 B3 H3 O2 ∧ Con X.K B3 H3 σ2 r2 O2 ∧ (Dq X.K B3 x ds[i] ∨ (lo = true ∧ Dw X.K B3 x ds[i])) := by
      rcases sv.yld i H2 x H3 ds[i] (List.getElem?_eq_getElem hlt) same y B2 s2.sB c2.sub with ⟨rfl, d⟩ | ⟨hlo, T, vs, hT, rfl, d⟩
      · exact ⟨B2, .refl, c2, .inl d⟩
      · obtain ⟨c4, s4⟩ := c2.layF (o := .tup vs) hT
        exact ⟨_, s4, c4, .inr ⟨hlo, d⟩⟩
    simp only [forS] at e2
    cases q1 : set ds[i] r2 with
    | none => rw [q1] at e2; cases e2
    | some z1 =>
      obtain ⟨o1, r3⟩ := z1
      rw [q1] at e2
      cases o1 with
      | nx =>
        refine ⟨B3, r2, O2, ds[i], r3, c3, d3, q1, fun σ3 c4 b4 k4 l4 => ⟨B3, r3, O2, c4, ?_⟩⟩
        simp only at e2
        have s03 := s2.trans s3
        have b03 := b2.trans b4
        cases q2 : mb r3 with
        | none => rw [q2] at e2; cases e2
        | some z2 =>
          obtain ⟨o2, r4⟩ := z2
          rw [q2] at e2
          refine ⟨o2, r4, rfl, ?_⟩
          cases o2 with
          | nx => exact fun B' H' O' σ' s' c' b' => ⟨hlt, B', r4, O', s03.trans s', c', b03.trans b', e2⟩
          | cnt => exact fun B' H' O' σ' s' c' b' => ⟨hlt, B', r4, O', s03.trans s', c', b03.trans b', e2⟩
          | brk =>
            cases e2
            exact fun B' H' O' σ' s' c' b' => p B' H' O' σ' (s1.trans (s03.trans s')) c' (b1.trans (b03.trans b'))
          | ret v =>
            cases e2
            exact fun B' H' O' σ' x s' c' b' y => p B' H' O' σ' x (s1.trans (s03.trans s')) c' (b1.trans (b03.trans b')) (later_rV (G := Cx.g X) _ H3 B' H' O' σ' v x (fun a ha => (s03.live a) (s1.live a ha)) y)
          | rets j =>
            cases e2
            exact fun B' H' O' σ' x s' c' b' y => p B' H' O' σ' x (s1.trans (s03.trans s')) c' (b1.trans (b03.trans b')) y
          | exc ex =>
            cases e2
            exact fun B' H' O' σ' k dx s' c' b' y => p B' H' O' σ' k dx (s1.trans (s03.trans s')) c' (b1.trans (b03.trans b')) y
      | _ => cases e2
  · have ei : i = ds.length := by omega
    subst ei
    rw [List.drop_length] at e2
    cases e2
    exact .inl ⟨sv.stop H2 same, p B2 H2 O2 σ2 (s1.trans s2) c2 (b1.trans b2)⟩
end DL
end

section
namespace DL
open PySem PySem.Spec PyProof.Rows L2
theorem wipe_in {σ : L2.St} {i : Nat} {x : V} : ∀ {vs : List Nat}, i ∈ vs → (wipe σ vs)[i]? ≠ some (some x)
  | vs, h, e => (wipe_some e).2 h
theorem wipeR_len {r : Ro} : ∀ {vs : List Nat}, (wipeR r vs).length = r.length
  | [] => rfl
  | v :: vs => by
    show ((wipeR r vs).set v .non).length = _
    rw [List.length_set, wipeR_len]
theorem wipeR_out {r : Ro} {i : Nat} : ∀ {vs : List Nat}, i ∉ vs → (wipeR r vs)[i]? = r[i]?
  | [], _ => rfl
  | v :: vs, h => by
    simp only [List.mem_cons, not_or] at h
    show ((wipeR r vs).set v .non)[i]? = _
    rw [List.getElem?_set_ne (Ne.symm h.1), wipeR_out h.2]
theorem wipeR_in {r : Ro} {i : Nat} {x : Sl} : ∀ {vs : List Nat}, i ∈ vs → (wipeR r vs)[i]? = some x → x = .non
  | v :: vs, h, e => by
    have e : ((wipeR r vs).set v .non)[i]? = some x := e
    rcases get_set e with ⟨_, z⟩ | ⟨n, e⟩
    · exact z
    · rcases List.mem_cons.mp h with rfl | h
      · exact absurd rfl n
      · exact wipeR_in h e
/-- the slots vs are forgotten: they may stand as they like -/
theorem Con.wiped {K : PySem.W.Frag} {B H : Hp} {σ σ' : L2.St} {r : Ro} {O : Addr → Prop} (c : Con K B H σ r O) {vs : List Nat} (hl : σ'.length = σ.length) (hs : ∀ j : Nat, j ∉ vs → σ'[j]? = σ[j]?) : Con K B H σ' (wipeR r vs) O := by
  induction vs generalizing σ' with
  | nil =>
    have e : σ' = σ := List.ext_getElem? fun j => hs j (by simp)
    subst e
    exact c
  | cons v vs ih =>
    -- first all but v
    have c1 := ih (σ' := σ'.set v ((σ[v]?).getD none)) (by rw [List.length_set, hl]) fun j hj => by
      by_cases e : j = v
      · subst e
        by_cases hv : j < σ'.length
        · rw [List.getElem?_set_self hv]
          have : j < σ.length := by omega
          rw [List.getElem?_eq_getElem this]
          rfl
        · rw [List.getElem?_eq_none (by rw [List.length_set]; omega), List.getElem?_eq_none (by omega)]
      · rw [List.getElem?_set_ne (Ne.symm e)]
        exact hs j (by simp [e, hj])
    exact c1.replace (i := v) (x := .non) (by rw [List.length_set]) (fun j n => by rw [List.getElem?_set_ne (Ne.symm n)]) trivial (fun _ _ e => by cases e)
theorem bor_wipe {r : Ro} {σ σ' : L2.St} {vs : List Nat} (h : anyPin r vs = false) (hs : ∀ j : Nat, j ∉ vs → σ'[j]? = σ[j]?) : Bor r σ (wipeR r vs) σ' := fun i x hx px => by
  have hi : i ∉ vs := fun hm => by
    have : anyPin r vs = true := List.any_eq_true.mpr ⟨i, hm, by rw [hx]; cases x <;> exact px⟩
    rw [h] at this; cases this
  exact ⟨⟨x, by rw [wipeR_out hi]; exact hx, px⟩, hs i hi⟩
def DTs (X : Cx) (W : WX) (ifs : List Expr) (m : M Bool) : Prop := PTs X ifs (tG (Cx.g X) W m rB)
theorem dts_nil {X : Cx} {W : WX} : DTs X W [] mYes := ⟨fun pins s σ H Q I ⟨B, r, O, h⟩ => pts_nil.run pins s σ H Q I (h.ret rfl)⟩
theorem dts_one {X : Cx} {W : WX} {c : Expr} {m : M Bool} (h : DB X W c m) : DTs X W [c] m := pts_one h
abbrev W0 : WX := fun _ _ _ _ => False
/-- a slot list without the comprehension's own names -/
def Clear (r : Ro) (vs : List Nat) : Prop := ∀ i ∈ vs, ∀ x, r[i]? = some x → x = Sl.non
theorem clear_wipe {r : Ro} {vs : List Nat} (h : Clear r vs) : wipeR r vs = r := by
  apply List.ext_getElem?
  intro j
  by_cases hj : j ∈ vs
  · cases q : r[j]? with
    | none => rw [List.getElem?_eq_none_iff] at q ⊢; rw [wipeR_len]; exact q
    | some x =>
      rw [h j hj x q]
      cases q2 : (wipeR r vs)[j]? with
      | none =>
        rw [List.getElem?_eq_none_iff, wipeR_len] at q2
        rw [List.getElem?_eq_none_iff.mpr q2] at q
        cases q
      | some y => rw [wipeR_in hj q2]
  · exact wipeR_out hj
theorem bor_wipe2 {r1 r4 : Ro} {σ σ2 σ' : L2.St} {vs : List Nat} (h : anyPin r1 vs = false) (b : Bor r1 σ r4 σ2) (hs : ∀ j : Nat, j ∉ vs → σ'[j]? = σ[j]?) : Bor r1 σ (wipeR r4 vs) σ' := fun i x hx px => by
  have hi : i ∉ vs := fun hm => by
    have : anyPin r1 vs = true := List.any_eq_true.mpr ⟨i, hm, by rw [hx]; cases x <;> exact px⟩
    rw [h] at this; cases this
  obtain ⟨⟨y, h1, h2⟩, h3⟩ := b i x hx px
  exact ⟨⟨y, by rw [wipeR_out hi]; exact h1, h2⟩, hs i hi⟩
section
variable {X : Cx} {W : WX}
theorem lc_read {lo : Bool} {mi : M (List D)} {vs ix : List Nat} {set : D → S} {t : M Bool} {me : M RV} (hix : ∀ j ∈ ix, j ∈ vs) {σ : L2.St} {H : Hp} {Q : VK} (h : tG (Cx.g X) W (mLc vs mi set t me) (rV (Cx.g X)) σ H Q) :
    tLc (tG (Cx.g X) W mi (rI (Cx.g X) lo)) (gD X.K lo ix set) (tG (Cx.g X) W0 t rB) (tG (Cx.g X) W0 me (rV (Cx.g X))) vs σ H Q := by
  obtain ⟨B, r, O, h⟩ := h
  refine tG.of ((h.bind later_rV (R := rI (Cx.g X) lo)).mono ?_)
  rintro J H1 ⟨ds, B1, r1, O1, s1, x1, c1, o, r', e, p⟩
  intro D hD
  have sv : Serves X.K lo J B1 ds := x1
  simp only at e
  split at e
  · cases e
  · rename_i np
    have np : anyPin r1 vs = false := by simpa using np
    cases q : lcM vs set t me ds [] (wipeR r1 vs) with
    | none => rw [q] at e; cases e
    | some z =>
      obtain ⟨xs, rf⟩ := z
      rw [q] at e
      cases e
      obtain ⟨bD, nD, c2, s2⟩ := c1.lay (o := .lst []) hD
      have wl := wipe_length σ vs
      have wo : ∀ j : Nat, j ∉ vs → (wipe σ vs)[j]? = σ[j]? := fun j hj => wipe_out hj
      refine ⟨fun i m H' => m = ds.length - i ∧ i ≤ ds.length ∧ ∃ B' r2 O' acc ad, Step B1 H1 O1 B' H' O' ∧ Con X.K B' H' (wipe σ vs) r2 O' ∧ Clear r2 vs ∧ Bor r1 σ r2 (wipe σ vs) ∧ H' D = some (.lst acc) ∧ DqAll X.K B' acc ad ∧ B' D = none ∧ ¬ O' D ∧ lcM vs set t me (ds.drop i) ad r2 = some (xs, rf),
        ⟨ds.length, by simp, Nat.zero_le _, B1, _, O1, [], [], s2, c2.wiped wl wo, fun i hi x hx => wipeR_in hi hx, bor_wipe np wo, upd_same, .nil, bD, nD, q⟩, ?_⟩
      rintro i m H2 ⟨rfl, hi2, B2, r2, O2, acc, ad, s3, c3, k3, b3, hA, hQ, bD2, nD2, e2⟩
      have same : Same B1 H2 := s3.sB.trans c3.sub
      by_cases hlt : i < ds.length
      · refine .inr ⟨sv.go i H2 hlt same, fun H' => i + 1 ≤ ds.length ∧ ∃ B' r2 O' acc ad, Step B1 H1 O1 B' H' O' ∧ Con X.K B' H' (wipe σ vs) r2 O' ∧ Clear r2 vs ∧ Bor r1 σ r2 (wipe σ vs) ∧ H' D = some (.lst acc) ∧ DqAll X.K B' acc ad ∧ B' D = none ∧ ¬ O' D ∧ lcM vs set t me (ds.drop (i + 1)) ad r2 = some (xs, rf),
          fun H' z => ⟨ds.length - (i + 1), by omega, rfl, z⟩, fun x H3 y => ?_⟩
        have ed : ds.drop i = ds[i] :: ds.drop (i + 1) := (List.drop_eq_getElem_cons hlt)
        rw [ed] at e2
        obtain ⟨B3, s4, c4, d4⟩ : ∃ B3, Step B2 H2 O2 B3 H3 O2 ∧ Con X.K B3 H3 (wipe σ vs) r2 O2 ∧ (Dq X.K B3 x ds[i] ∨ (lo = true ∧ Dw X.K B3 x ds[i])) := by
          rcases sv.yld i H2 x H3 ds[i] (List.getElem?_eq_getElem hlt) same y B2 s3.sB c3.sub with ⟨rfl, d⟩ | ⟨hlo, T, ws, hT, rfl, d⟩
          · exact ⟨B2, .refl, c3, .inl d⟩
          · obtain ⟨c5, s5⟩ := c3.layF (o := .tup ws) hT
            exact ⟨_, s5, c5, .inr ⟨hlo, d⟩⟩
        simp only [lcM] at e2
        cases q1 : set ds[i] r2 with
        | none => rw [q1] at e2; cases e2
        | some z1 =>
          obtain ⟨o1, r3⟩ := z1
          rw [q1] at e2
          cases o1 with
          | nx =>
            refine ⟨B3, r2, O2, ds[i], r3, c4, d4, q1, fun σ2 c5 b5 k5 l5 => ⟨?_, ?_⟩⟩
            · apply List.ext_getElem?
              intro j
              by_cases hj : j ∈ vs
              · by_cases hl : j < σ.length
                · have g : ∀ τ : L2.St, τ.length = σ.length → (wipe τ vs)[j]? = some none := fun τ hτ => by
                    cases qq : (wipe τ vs)[j]? with
                    | none => rw [List.getElem?_eq_none_iff, wipe_length] at qq; omega
                    | some w => cases w with
                      | none => rfl
                      | some w => exact absurd qq (wipe_in hj)
                  rw [g σ rfl, g σ2 (l5.trans wl)]
                · rw [List.getElem?_eq_none (by rw [wipe_length, l5, wl]; omega), List.getElem?_eq_none (by rw [wl]; omega)]
              · rw [wipe_out hj, wipe_out hj, k5 j (fun z => hj (hix j z)), wipe_out hj]
            · simp only at e2
              cases q2 : t r3 with
              | none => rw [q2] at e2; cases e2
              | some z2 =>
                obtain ⟨o2, r4⟩ := z2
                rw [q2] at e2
                refine ⟨B3, r3, O2, c5, o2, r4, q2, ?_⟩
                cases o2 with
                | exc x => cases e2
                | ok b =>
                  intro B5 H5 O5 b' s6 c6 b6 hb'
                  cases hb'
                  have s36 : Step B1 H1 O1 B5 H5 O5 := (s3.trans s4).trans s6
                  have hA3 : H3 D = some (.lst acc) := s4.keep D _ hA nD2
                  have bD3 : B3 D = none := s4.nB D (by rw [hA]; simp) nD2 bD2
                  have hA5 : H5 D = some (.lst acc) := s6.keep D _ hA3 nD2
                  have bD5 : B5 D = none := s6.nB D (by rw [hA3]; simp) nD2 bD3
                  have nD5 : ¬ O5 D := fun z => by
                    rcases s6.nO D z with z | z
                    · exact nD2 z
                    · rw [hA3] at z; cases z
                  cases b with
                  | false =>
                    exact iteF ⟨hlt, B5, wipeR r4 vs, O5, acc, ad, s36, c6.wiped (wl.trans (l5.trans wl).symm |>.trans rfl) fun j hj => (k5 j fun z => hj (hix j z)).symm, fun i hi x hx => wipeR_in hi hx, bor_wipe2 np (b3.trans (b5.trans b6)) wo, hA5, dqa_same' s4 s6 hQ, bD5, nD5, e2⟩
                  | true =>
                    simp only at e2
                    cases q3 : mFz me r4 with
                    | none => rw [q3] at e2; cases e2
                    | some z3 =>
                      obtain ⟨o3, r5⟩ := z3
                      rw [q3] at e2
                      cases o3 with
                      | exc x => cases e2
                      | ok d =>
                        simp only at e2
                        split at e2
                        · rename_i hz
                          refine iteT (tG.of (At.froz ⟨c6, .ok d, r5, q3, fun B6 H6 O6 y6 s7 c7 b7 d7 => ?_⟩))
                          have hA6 : H6 D = some (.lst acc) := s7.keep D _ hA5 nD5
                          have bD6 : B6 D = none := s7.nB D (by rw [hA5]; simp) nD5 bD5
                          have nD6 : ¬ O6 D := fun z => by
                            rcases s7.nO D z with z | z
                            · exact nD5 z
                            · rw [hA5] at z; cases z
                          have qa := dpa_same s7.sB (dqa_same' s4 s6 hQ)
                          refine ⟨acc, hA6, by rw [qa.length, ← line_eq]; exact hz, hlt, ?_⟩
                          -- the new list grows: it is nobody's
                          have c8 : Con X.K B6 (upd H6 D (.lst (acc ++ [y6]))) σ2 r5 O6 := c7.mono (Same.refl _) (fun a w ha => by
                            by_cases z : a = D
                            · subst z; rw [bD6] at ha; cases ha
                            · rw [upd_ne z]; exact c7.sub a w ha) (fun a ha => upd_ne (show a ≠ D from fun z => nD6 (by rw [← z]; exact ha))) c7.off
                          have s37 := s36.trans s7
                          have s9 : Step B1 H1 O1 B6 (upd H6 D (.lst (acc ++ [y6]))) O6 := ⟨s37.sB, fun a w ha na => by
                            rw [upd_ne (ne_of_none ha hD)]
                            exact s37.keep a w ha na, fun a ha => by
                            by_cases z : a = D
                            · subst z; rw [upd_same]; simp
                            · rw [upd_ne z]; exact s37.live a ha, s37.nB, s37.nO⟩
                          exact ⟨B6, wipeR r5 vs, O6, acc ++ [y6], ad ++ [d], s9, c8.wiped (wl.trans (l5.trans wl).symm |>.trans rfl) fun j hj => (k5 j fun z => hj (hix j z)).symm, fun i hi x hx => wipeR_in hi hx, bor_wipe2 np (b3.trans (b5.trans (b6.trans b7))) wo, upd_same, qa.append (.cons d7 .nil), bD6, nD6, e2⟩
                        · cases e2
          | _ => cases e2
      · have ei : i = ds.length := by omega
        subst ei
        rw [List.drop_length] at e2
        cases e2
        refine .inl ⟨sv.stop H2 same, p B2 H2 O2 (.ref D) s3 ?_ (fun i x hx px => ⟨(b3 i x hx px).1, rfl⟩) ⟨D, [D], rfl, ⟨rfl, acc, hA, hQ⟩, fun a ha => ?_⟩⟩
        · have c9 := c3.wiped (σ' := σ) wl.symm fun j hj => (wo j hj).symm
          rw [clear_wipe k3] at c9
          exact c9
        · simp at ha
          subst ha
          exact ⟨hD, bD2, nD2⟩
where
  dqa_same' {K : PySem.W.Frag} {B2 H2 B3 H3 B5 H5 : Hp} {O2 O3 O5 : Addr → Prop} {acc : List V} {ad : List D} (s4 : Step B2 H2 O2 B3 H3 O3) (s6 : Step B3 H3 O3 B5 H5 O5) (h : DqAll K B2 acc ad) : DqAll K B5 acc ad := dpa_same s6.sB (dpa_same s4.sB h)
/-- [elt for target in iter if ..] -/
theorem de_lc {lo : Bool} {elt tg iter : Expr} {ifs : List Expr} {scope : Scope} {own : List (Str × Nat)} {pos : Pos} {mi : M (List D)} {ix : List Nat} {set : D → S} {t : M Bool} {me : M RV} (hc : X.calm = true) (hN : X.N.Nodup) (hi : DI X W lo tg iter mi) (ok : BlkOk X.N X.env.scope scope own)
    (hg : ∀ (s : Shared) (H : Hp) (C : Addr) (cl : List (Str × Addr)) (fp : List Addr), DG (X.blk s H scope (compEnvC scope cl C X.env) fp) lo tg ix set) (ht : ∀ (s : Shared) (H : Hp) (C : Addr) (cl : List (Str × Addr)) (fp : List Addr), DTs (X.blk s H scope (compEnvC scope cl C X.env) fp) W0 ifs t)
    (he : ∀ (s : Shared) (H : Hp) (C : Addr) (cl : List (Str × Addr)) (fp : List Addr), DE (X.blk s H scope (compEnvC scope cl C X.env) fp) W0 elt me) (hix : ∀ j ∈ ix, j ∈ own.map (·.2)) (hs : ∀ x, foldedSetIterable iter X.env x = pure x := by intro _; rfl) :
    DE X W (.ListComp elt [⟨tg, iter, ifs, 0⟩] scope pos) (mLc (own.map (·.2)) mi set t me) :=
  pe_weak (pe_lc (g := gD X.K lo ix set) (tt := tG (Cx.g X) W0 t rB) (te := tG (Cx.g X) W0 me (rV (Cx.g X))) hc hN hi ok hg ht he hs) fun σ H Q h => lc_read hix h
/-- name = [..] on one line -/
theorem ds_setLc {lo : Bool} {i : Nat} {y : Str} {py : Pos} {elt tg iter : Expr} {ifs : List Expr} {scope : Scope} {own : List (Str × Nat)} {pos spos : Pos} {mi : M (List D)} {ix : List Nat} {set : D → S} {t : M Bool} {me : M RV} (hc : X.calm = true) (hN : X.N.Nodup) (hy : X.N[i]? = some y) (hyl : X.env.scope.names.lookup y = some .local)
    (hsw : swapsWith (.ListComp elt [⟨tg, iter, ifs, 0⟩] scope pos) (some (.Name y py)) spos.line X.env = pure true) (hi : DI X W lo tg iter mi) (ok : BlkOk X.N X.env.scope scope own)
    (hg : ∀ (s : Shared) (H : Hp) (C : Addr) (cl : List (Str × Addr)) (fp : List Addr), DG (X.blk s H scope (compEnvC scope cl C X.env) fp) lo tg ix set) (ht : ∀ (s : Shared) (H : Hp) (C : Addr) (cl : List (Str × Addr)) (fp : List Addr), DTs (X.blk s H scope (compEnvC scope cl C X.env) fp) W0 ifs t)
    (he : ∀ (s : Shared) (H : Hp) (C : Addr) (cl : List (Str × Addr)) (fp : List Addr), DE (X.blk s H scope (compEnvC scope cl C X.env) fp) W0 elt me) (hix : ∀ j ∈ ix, j ∈ own.map (·.2)) (hs : ∀ x, foldedSetIterable iter X.env x = pure x := by intro _; rfl) :
    DS X W (.Assign [.Name y py] (.ListComp elt [⟨tg, iter, ifs, 0⟩] scope pos) spos) (sSet i (mLc (own.map (·.2)) mi set t me)) :=
  ds_setG (ps_weak (ps_setLc (g := gD X.K lo ix set) (tt := tG (Cx.g X) W0 t rB) (te := tG (Cx.g X) W0 me (rV (Cx.g X))) hc hN hy hyl hsw hi ok hg ht he hs) fun D σ H h => lc_read hix h)
theorem serves_list {lo : Bool} {K : PySem.W.Frag} {B0 : Hp} {a : Addr} {xs : List V} {ds : List D} (h : SqL K B0 a xs) (d : DqAll K B0 xs ds) : Serves K lo (Itl K a) B0 ds := by
  refine ⟨fun H s => ⟨xs, s.seq h, by rw [d.length]; exact Nat.le_refl _⟩, fun i H hi s => ?_, fun i H x H' e he s y B b1 b2 => ?_⟩
  · rw [← d.length] at hi
    exact ⟨xs, xs[i], s.seq h, List.getElem?_eq_getElem hi⟩
  · obtain ⟨rfl, y⟩ := y
    obtain ⟨v, h1, h2⟩ := d.get he
    have := y xs (s.seq h)
    rw [h1] at this; cases this
    exact .inl ⟨rfl, dp_same b1 h2⟩
theorem serves_tup {lo : Bool} {K : PySem.W.Frag} {B0 : Hp} {a : Addr} {xs : List V} {ds : List D} (h : SqT K B0 a xs) (d : DqAll K B0 xs ds) : Serves K lo (Itt K a) B0 ds := by
  refine ⟨fun H s => ⟨xs, sqt_same s h, by rw [d.length]; exact Nat.le_refl _⟩, fun i H hi s => ?_, fun i H x H' e he s y B b1 b2 => ?_⟩
  · rw [← d.length] at hi
    exact ⟨xs, xs[i], sqt_same s h, List.getElem?_eq_getElem hi⟩
  · obtain ⟨rfl, y⟩ := y
    obtain ⟨v, h1, h2⟩ := d.get he
    have := y xs (sqt_same s h)
    rw [h1] at this; cases this
    exact .inl ⟨rfl, dp_same b1 h2⟩
theorem serves_range {lb : Bool} {K : PySem.W.Frag} {B0 : Hp} {lo hi : Int} : Serves K lb (Itr lo (hi - lo).toNat) B0 (rng lo hi) := by
  have hl : (rng lo hi).length = (hi - lo).toNat := by simp [rng]
  refine ⟨fun H s => by show (hi - lo).toNat ≤ _; rw [hl]; exact Nat.le_refl _, fun i H h s => by rw [hl] at h; exact h, fun i H x H' e he s y B b1 b2 => ?_⟩
  obtain ⟨rfl, rfl⟩ := y
  have hi' : i < (hi - lo).toNat := by
    rw [← hl]; exact (List.getElem?_eq_some_iff.mp he).1
  have : e = .int (lo + i) := by
    simp only [rng, List.getElem?_map, List.getElem?_range hi', Option.map_some, Option.some.injEq] at he
    exact he.symm
  subst this
  exact .inl ⟨rfl, .int _⟩
/-- a list or a tuple -/
theorem pi_seq {tg l : Expr} {tl : TE} (hl : PE X l tl) : PI X tg l (fun σ H R => tl σ H fun x H1 => (∃ a, x = .ref a ∧ (∃ xs, SqL X.K H1 a xs) ∧ R (Itl X.K a) H1) ∨ ∃ a, x = .ref a ∧ (∃ xs, SqT X.K H1 a xs) ∧ R (Itt X.K a) H1) := by
  refine ⟨fun pins s σ H R I h => ?_⟩
  refine thn (hl.run pins s σ H _ I h) fun v s1 ⟨x, H1, I1, r1, q1⟩ => ?_
  rcases q1 with ⟨a, e, ⟨xs, hq⟩, q⟩ | ⟨a, e, ⟨xs, hq⟩, q⟩
  · subst e
    cases r1
    obtain ⟨its, rv, p, hz⟩ := I1.list hq
    refine wpAny_pyIter_list p.isList ?_
    refine ⟨s1.heap.objs.size, [s1.heap.objs.size], _, _, H1, rfl, I1.kept (t' := s1.toks) fun b o e => Heap.get?_push_of_some _ e, turn_list a _, ⟨_, Heap.get?_push_size _ rfl, rfl, rfl⟩, fun b hb => ?_, q⟩
    have e : b = s1.heap.objs.size := by simpa using hb
    subst e
    exact I1.fpOk (Nat.le_refl _) (I1.hok.fresh (Nat.le_refl _))
  · subst e
    cases r1
    obtain ⟨its, rv, p, hz⟩ := I1.tuple hq
    refine wpAny_pyIter_tuple (show s1.heap.IsTuple a its.toArray from p) ?_
    refine ⟨s1.heap.objs.size, [s1.heap.objs.size], _, _, H1, rfl, I1.kept (t' := s1.toks) fun b o e => Heap.get?_push_of_some _ e, turn_tuple a _, ⟨_, Heap.get?_push_size _ rfl, rfl, rfl⟩, fun b hb => ?_, q⟩
    have e : b = s1.heap.objs.size := by simpa using hb
    subst e
    exact I1.fpOk (Nat.le_refl _) (I1.hok.fresh (Nat.le_refl _))
theorem di_seq {lo : Bool} {tg e : Expr} {m : M RV} (h : DE X W e m) : DI X W lo tg e (mRow m) := pi_weak (pi_seq h) fun σ H R ⟨B, r, O, h⟩ => by
  refine tG.of (At.froz ((h.bind later_rI (R := rD (Cx.g X))).mono ?_))
  rintro v H1 ⟨d, B1, r1, O1, s1, dp, h1⟩
  have dp : Dq X.K B1 v d := dp
  obtain ⟨c, o, r', e, p⟩ := h1
  cases q : rowOf d with
  | none => rw [q] at e; cases e
  | some ds =>
    rw [q] at e
    cases e
    rcases row_of q with rfl | rfl
    · obtain ⟨a, xs, rfl, hs, ha⟩ := dp_list dp
      exact .inl ⟨a, rfl, ⟨xs, .of (c.sub _ _ hs)⟩, p B1 H1 O1 _ .refl c .refl (serves_list (.of hs) ha)⟩
    · obtain ⟨a, xs, rfl, hs, ha⟩ := dp_tuple dp
      exact .inr ⟨a, rfl, ⟨xs, (tup_same c.sub hs).sq⟩, p B1 H1 O1 _ .refl c .refl (serves_tup hs.sq ha)⟩
end
end DL
end

section
namespace DL
open PySem PySem.Spec PyProof.Rows L2
section
variable {K : PySem.W.Frag} {mg : Str → Option Value} {B H B' H' : Hp} {xs : List Rs} {vs : List V} {O O' : Addr → Prop}
theorem start_get {N : List Str} {k : Nat} (h : k < vs.length) : (start N vs)[k]? = (vs.map some)[k]? := by
  unfold L2.start
  rw [List.getElem?_append_left (by simpa using h)]
theorem pad_get {r : Ro} {m k : Nat} {x : Sl} (h : (r ++ List.replicate m Sl.non)[k]? = some x) (n : x ≠ .non) : r[k]? = some x := by
  by_cases hk : k < r.length
  · rw [List.getElem?_append_left hk] at h; exact h
  · rw [List.getElem?_append_right (by omega), List.getElem?_replicate] at h
    split at h
    · cases h; exact absurd rfl n
    · cases h
theorem Con.pad {N : List Str} (c : Con K B H (vs.map some) (xs.map toSl) O) (hN : vs.length ≤ N.length) : Con K B H (start N vs) (xs.map toSl ++ List.replicate (N.length - vs.length) .non) O := by
  have hl : xs.length = vs.length := by have := c.len; simpa using this
  have hs : ∀ (k : Nat) (x : Sl), x ≠ .non → (xs.map toSl ++ List.replicate (N.length - vs.length) Sl.non)[k]? = some x → (xs.map toSl)[k]? = some x ∧ (start N vs)[k]? = (vs.map some)[k]? := fun k x n e => by
    have e' := pad_get e n
    refine ⟨e', start_get ?_⟩
    have := (List.getElem?_eq_some_iff.mp e').1
    rw [List.length_map] at this
    omega
  refine ⟨⟨c.sub, c.off, c.liv, ?_, fun i b d e => ?_, fun i b ct e => ?_, fun i j b c1 b' c2 l l' F F' ne e1 e2 s1 s2 o1 o2 => ?_⟩, fun i j k h => ?_⟩
  · unfold L2.start
    simp [hl]
  · obtain ⟨e', q⟩ := hs i _ (by simp) e
    rw [q]
    exact c.frz i b d e'
  · obtain ⟨e', q⟩ := hs i _ (by simp) e
    rw [q]
    exact c.own i b ct e'
  · obtain ⟨e1', q1⟩ := hs i _ (by simp) e1
    obtain ⟨e2', q2⟩ := hs j _ (by simp) e2
    rw [q1] at s1
    rw [q2] at s2
    exact c.sep i j b c1 b' c2 l l' F F' ne e1' e2' s1 s2 o1 o2
  · obtain ⟨h', _⟩ := hs i _ (by simp) h
    rw [List.getElem?_map] at h'
    cases q : xs[i]? with
    | none => rw [q] at h'; cases h'
    | some x => rw [q] at h'; cases x <;> cases h'
theorem outs_len : ∀ {xs : List Rs} {k : Nat} {r : Ro}, (outs xs k r).length = xs.length
  | [], _, _ => rfl
  | .fz _ :: xs, k, r => by simp [outs, outs_len]
  | .ow _ :: xs, k, r => by simp [outs, outs_len]
theorem outs_get {r : Ro} {c : Ct} : ∀ {xs : List Rs} {k j : Nat}, xs[j]? = some (Rs.ow c) → (outs xs k r)[j]? = some (match r[k + j]? with
      | some (.own _ c') => .ow c'
      | some (.frz _ d) => .fz d
      | _ => .ow c)
  | [], _, _, h => by simp at h
  | x :: xs, k, 0, h => by
    simp at h
    subst h
    simp only [outs, Nat.add_zero, List.getElem?_cons_zero]
    try rfl
  | x :: xs, k, j + 1, h => by
    have ih := outs_get (r := r) (c := c) (xs := xs) (k := k + 1) (j := j) (by simpa using h)
    rw [show k + 1 + j = k + (j + 1) by omega] at ih
    cases x <;> simpa only [outs, List.getElem?_cons_succ] using ih
/-- the arguments behind a def's body -/
theorem exit_con {σ0 σ' : L2.St} {r' : Ro} {m : Nat} (c : Con K B H (vs.map some) (xs.map toSl) O) (sB : Same B B') (h0 : ∀ k, k < vs.length → σ0[k]? = (vs.map some)[k]?) (c' : Con K B' H' σ' r' O') (b : Bor (xs.map toSl ++ List.replicate m .non) σ0 r' σ') :
    Con K B' H' (vs.map some) (List.zipWith exitSl xs (outs xs 0 r')) O' := by
  have hl : xs.length = vs.length := by have := c.len; simpa using this
  -- what stands at each place
  have at_ : ∀ (k : Nat) (x : Sl), (List.zipWith exitSl xs (outs xs 0 r'))[k]? = some x → (∃ d, x = .frz false d ∧ (xs.map toSl)[k]? = some (.frz false d)) ∨ (r'[k]? = some x ∧ σ'[k]? = (vs.map some)[k]?) := by
    intro k x e
    rw [List.getElem?_zipWith] at e
    cases q : xs[k]? with
    | none => rw [q] at e; cases e
    | some y =>
      rw [q] at e
      have hk : k < xs.length := (List.getElem?_eq_some_iff.mp q).1
      cases y with
      | fz d =>
        cases q2 : (outs xs 0 r')[k]? with
        | none => rw [q2] at e; cases e
        | some z =>
          rw [q2] at e
          cases e
          exact .inl ⟨d, rfl, by rw [List.getElem?_map, q]; rfl⟩
      | ow ct =>
        rw [outs_get (c := ct) q, Nat.zero_add] at e
        have hr : (xs.map toSl ++ List.replicate m Sl.non)[k]? = some (Sl.own true ct) := by
          rw [List.getElem?_append_left (by simpa using hk), List.getElem?_map, q]; rfl
        obtain ⟨⟨y, h1, h2⟩, h3⟩ := b k _ hr rfl
        refine .inr ⟨?_, by rw [h3]; exact h0 k (by omega)⟩
        rw [h1] at e ⊢
        cases y with
        | non => cases h2
        | al _ _ => cases h2
        | frz b2 d =>
          have h2 : b2 = true := h2
          subst h2
          exact e
        | own b2 c2 =>
          have h2 : b2 = true := h2
          subst h2
          exact e
  refine ⟨⟨c'.sub, c'.off, c'.liv, by rw [List.length_zipWith, outs_len, Nat.min_self, hl, List.length_map], fun i b d e => ?_, fun i b ct e => ?_, fun i j b c1 b' c2 l l' F F' ne e1 e2 s1 s2 o1 o2 => ?_⟩, fun i j k h => ?_⟩
  · rcases at_ i _ e with ⟨d', h1, h2⟩ | ⟨h1, h2⟩
    · cases h1
      obtain ⟨v, g1, g2⟩ := c.frz i false d h2
      exact ⟨v, g1, dp_same sB g2⟩
    · rw [← h2]
      exact c'.frz i b d h1
  · rcases at_ i _ e with ⟨d', h1, h2⟩ | ⟨h1, h2⟩
    · cases h1
    · rw [← h2]
      exact c'.own i b ct h1
  · rcases at_ i _ e1 with ⟨d', h1, h2⟩ | ⟨h1, h2⟩
    · cases h1
    · rcases at_ j _ e2 with ⟨d', h3, h4⟩ | ⟨h3, h4⟩
      · cases h3
      · rw [← h2] at s1
        rw [← h4] at s2
        exact c'.sep i j b c1 b' c2 l l' F F' ne h1 h3 s1 s2 o1 o2
  · rw [List.getElem?_zipWith] at h
    cases q : xs[i]? with
    | none => rw [q] at h; cases h
    | some x =>
      cases q2 : (outs xs 0 r')[i]? with
      | none => rw [q, q2] at h; cases h
      | some y => rw [q, q2] at h; cases x <;> first | cases h | (cases y <;> cases h)
/-- a def's body read from its promise -/
theorem def_read {N : List Str} {n : Nat} {body : S} {Q : VK} {E : XK} (hn : n ≤ N.length) (h : spD K mg (defSem n N.length body) n vs H Q E) :
    tS ⟨K, mg⟩ (fun c d _ H => E c d H) body { nx := fun _ H' => Q .non H', rt := Q } (start N vs) H := by
  obtain ⟨hv, B, O, xs, c, o, ys, e, hy, p⟩ := h
  have hl : xs.length = vs.length := by have := c.len; simpa using this
  unfold defSem at e
  rw [if_pos (by omega)] at e
  have cp := c.pad (N := N) (by omega)
  rw [hv] at cp
  have ex : ∀ {B' H' O' σ' r'}, Same B B' → Con K B' H' σ' r' O' → Bor (xs.map toSl ++ List.replicate (N.length - n) .non) (start N vs) r' σ' → Con K B' H' (vs.map some) (List.zipWith exitSl xs (outs xs 0 r')) O' :=
    fun sB c' b => exit_con c sB (fun k hk => start_get hk) c' b
  by_cases hz : allFz xs = true
  · -- nothing was lent
    have noOwn : ∀ (ys : List Rs), allFz ys = true → ∀ (m i : Nat) b ct, (ys.map toSl ++ List.replicate m Sl.non)[i]? = some (Sl.own b ct) → False := by
      intro ys
      induction ys with
      | nil =>
        intro _ m i b ct h
        simp [List.getElem?_replicate] at h
      | cons y ys ih =>
        intro h m i b ct h2
        cases y with
        | fz d =>
          cases i with
          | zero => cases h2
          | succ i => exact ih h m i b ct (by simpa using h2)
        | ow c => cases h
    have cp0 := cp.shrink (O' := fun _ => False) (fun _ h => h.elim) fun i b ct l F e _ _ => (noOwn xs hz _ i b ct e).elim
    have up : ∀ {B' H' : Hp} {O' : Addr → Prop}, Step B H (fun _ => False) B' H' O' → Step B H O B' H' O' := fun s => ⟨s.sB, fun a o h _ => s.keep a o h (fun z => z), s.live, fun a h _ => s.nB a h (fun z => z), fun a h => (s.nO a h).elim (fun z => z.elim) .inr⟩
    refine ⟨B, _, _, cp0, ?_⟩
    cases q : body (xs.map toSl ++ List.replicate (N.length - n) .non) with
    | none => rw [q] at e; cases e
    | some z =>
      obtain ⟨so, r'⟩ := z
      rw [q] at e
      refine ⟨so, r', rfl, ?_⟩
      cases so with
      | nx =>
        cases e
        exact fun B' H' O' σ' s c' b => p B' H' O' .non (up s) (ex s.sB c' b) .non
      | ret v =>
        cases e
        exact fun B' H' O' σ' x s c' b rv => p B' H' O' x (up s) (ex s.sB c' b) rv
      | rets i =>
        simp only [handOn] at e
        split at e
        · rename_i c q2
          rw [if_pos hz] at e
          cases e
          intro B' H' O' σ' x s c' b hx
          obtain ⟨l, F, h1, h2, h3⟩ := c'.own i _ _ q2
          rw [hx] at h1
          cases h1
          have c2 := c'.release q2 hx h2
          have b2 : Bor (xs.map toSl ++ List.replicate (N.length - n) .non) (start N vs) (r'.set i .non) σ' := b.trans (bor_set q2 fun z => by cases z)
          refine p B' H' (fun a => O' a ∧ a ∉ F) _ ⟨s.sB, fun a o h _ => s.keep a o h (fun z => z), s.live, fun a h _ => s.nB a h (fun z => z), fun a h => (s.nO a h.1).elim (fun z => z.elim) .inr⟩ (ex s.sB c2 b2) ⟨l, F, rfl, h2, fun a ha => ⟨?_, c'.off a (h3 a ha), fun z => z.2 ha⟩⟩
          exact (s.nO a (h3 a ha)).elim (fun z => z.elim) (fun z => z)
        · cases e
      | exc x =>
        cases e
        exact fun B' H' O' σ' k dx s c' b rx => p B' H' O' k dx (up s) (ex s.sB c' b) rx
      | brk => cases e
      | cnt => cases e
  refine ⟨B, _, O, cp, ?_⟩
  cases q : body (xs.map toSl ++ List.replicate (N.length - n) .non) with
  | none => rw [q] at e; cases e
  | some z =>
    obtain ⟨so, r'⟩ := z
    rw [q] at e
    refine ⟨so, r', rfl, ?_⟩
    cases so with
    | nx =>
      cases e
      exact fun B' H' O' σ' s c' b => p B' H' O' .non s (ex s.sB c' b) .non
    | ret v =>
      cases e
      exact fun B' H' O' σ' x s c' b rv => p B' H' O' x s (ex s.sB c' b) rv
    | rets i =>
      simp only [handOn] at e
      split at e
      · rw [if_neg hz] at e
        cases e
      · cases e
    | exc x =>
      cases e
      exact fun B' H' O' σ' k dx s c' b rx => p B' H' O' k dx s (ex s.sB c' b) rx
    | brk => cases e
    | cnt => cases e
end
/-- a def keeps its promise by its body's meaning -/
theorem def_ok {P : Program} {w : World} {K : PySem.W.Frag} {mg : Str → Option Value} {base : Heap} {x qual : Str} {st : Stmt} {f : Addr} {fd : FuncData} {N ps : List Str} {k : Nat} {body : S} (F : Fun K x qual st f fd) (Sc : FnScope N ps (defScope st)) (hn : ps.length ≤ N.length)
    (hb : ∀ (cdv : Value) (A : Around) (outer : List Env) (s : Shared) (H : Hp) (E : XK), Room k (A.deeper (envOfC qual (defScope st) s.heap.objs.size f cdv)) →
      L2N.Takes (cxOf (L2N.CX P w) P w K mg base N qual (defScope st) f cdv A outer s H E) (fun c d _ H => E c d H) →
      DSs (cxOf (L2N.CX P w) P w K mg base N qual (defScope st) f cdv A outer s H E) (fun c d _ H => E c d H) (defBody st) body) :
    FnOk P w K mg base (L2N.CX P w) (k + 1) f fd ps (spD K mg (defSem ps.length N.length body) ps.length) := by
  obtain ⟨oc, od, kV, doc, pm, an, cdv, ct, osl, rfl, lk, hcd⟩ := F.ex
  exact fn_of lk hcd Sc (fun vs H Q E h => h.1) fun A outer s H vs Q E hr h => ⟨_, hb cdv A outer s H E hr (L2N.takes_of rfl rfl rfl rfl), def_read hn h⟩
end DL
end

section
namespace DL
open PySem
/-- the list in slot i (or looked at by it) is changed -/
def updSl (r : Ro) (i : Nat) (ds : List D) : Ro := match r[i]? with
  | some (.own b _) => r.set i (.own b (.lst ds))
  | some (.al j k) => match r[j]? with
    | some (.own b (.ll rows)) => r.set j (.own b (.ll (rows.set k ds)))
    | _ => r
  | _ => r
def listAt (r : Ro) (i : Nat) : Option (List D) := match look2 r (.slot i) with
  | some (.ow (.lst ds)) => some ds
  | _ => none
/-- x.m(..) that changes the list x -/
def mMut (g : List D → List D → Option (List D × D)) (i : Nat) (ms : List (M AV)) : M RV := fun r => match listAt r i with
  | none => none
  | some _ => (oL ms).bind (fun as => fun r => match listAt r i, looks2 r as with
    | some ds, some xs => match dataAll xs with
      | some es => (g ds es).map fun p => (.ok (.val p.2), updSl r i p.1)
      | none => none
    | _, _ => none) r
def gAppend : List D → List D → Option (List D × D)
  | ds, [d] => if ds.length < lineD then some (ds ++ [d], .none) else none
  | _, _ => none
def gInsert : List D → List D → Option (List D × D)
  | ds, [.int i, d] => if ds.length < lineD ∧ 0 ≤ i ∧ i < 2 ^ 63 then some (ds.take i.toNat ++ [d] ++ ds.drop i.toNat, .none) else none
  | _, _ => none
/-- x[i] = e of a list -/
def sSub (i : Nat) (me : M RV) (mi : M AV) : S := sEx (mFz me) fun d => fun r => match listAt r i with
  | none => none
  | some _ => sEx mi (fun a => fun r => match listAt r i, (look2 r a).bind Rs.data with
    | some ds, some (.int n) => (ixD ds.length n).map fun k => (.nx, updSl r i (ds.set k d))
    | _, _ => none) r
/-- x = rows[e], a look into a list of lists -/
def sAl (i j : Nat) (mi : M AV) : S := fun r => match r[j]? with
  | some (.own _ (.ll _)) => sEx mi (fun a => fun r => match r[j]?, (look2 r a).bind Rs.data, r[i]? with
    | some (.own _ (.ll rows)), some (.int n), some x => if i ≠ j ∧ putSl.pinnedB x = false then (ixD rows.length n).map fun k => (.nx, r.set i (.al j k)) else none
    | _, _, _ => none) r
  | _ => none
/-- a, b = e, f -/
def sPar (i j : Nat) (m n : M RV) : S := sEx (mFz m) fun d => sEx (mFz n) fun e => sSeq (putSl i (.val d)) (putSl j (.val e))
/-- comprehensions of new lists -/
def lcL (vs : List Nat) (set : D → S) (t : M Bool) (e : M RV) : List D → List (List D) → Ro → Option (List (List D) × Ro)
  | [], acc, r => some (acc, r)
  | d :: ds, acc, r => match set d r with
    | some (.nx, r1) => match t r1 with
      | some (.ok true, r2) => match e r2 with
        | some (.ok (.new (.lst x)), r3) => if acc.length < lineD then lcL vs set t e ds (acc ++ [x]) (wipeR r3 vs) else none
        | _ => none
      | some (.ok false, r2) => lcL vs set t e ds acc (wipeR r2 vs)
      | _ => none
    | _ => none
def mLcL (vs : List Nat) (mi : M (List D)) (set : D → S) (t : M Bool) (e : M RV) : M RV := mi.bind fun ds => fun r =>
  if anyPin r vs then none else (lcL vs set t e ds [] (wipeR r vs)).map fun p => (.ok (.new (.ll p.1)), p.2)
/-- x[lo:hi] -/
def sIxD (n d : Nat) : Option Int → Nat
  | none => d
  | some v => if v < 0 then (v + n).toNat else min v.toNat n
def cutD {α : Type} (xs : List α) (lo hi : Option Int) : List α := (xs.drop (sIxD xs.length 0 lo)).take (sIxD xs.length xs.length hi - sIxD xs.length 0 lo)
def scrL : List (D × D) → Option (List Int)
  | [] => some []
  | (.int n, .none) :: r => (scrL r).map (n :: ·)
  | _ => none
/-- the law's script: a dict here, marked by its first entry -/
def scrOf : List (D × D) → Option (List Int)
  | (.none, .none) :: r => scrL r
  | _ => none
def gCut (lo hi : Option Int) : Rs → Option RV := fun a => match a.data with
  | some (.list xs) => some (.new (.lst (cutD xs lo hi)))
  | some (.tuple xs) => some (.val (.tuple (cutD xs lo hi)))
  | some (.dict kvs) => (scrOf kvs).map fun ns => .new (.lst ((cutD ns lo hi).map .int))
  | _ => none
/-- a bound -/
def mBd : Option (M AV) → M (Option Int)
  | none => M.ret none
  | some m => m.bind fun a => fun r => match (look2 r a).bind Rs.data with
    | some (.int n) => some (.ok (some n), r)
    | _ => none
def mSl (m : M AV) (lo hi : Option (M AV)) : M RV := m.bind fun a => (mBd lo).bind fun l => (mBd hi).bind fun h => fun r => ((look2 r a).bind (gCut l h)).map fun v => (.ok v, r)
end DL
end

section
namespace DL
open PySem PySem.Spec PyProof.Rows L2
theorem listAt_look {r : Ro} {i : Nat} {ds : List D} (h : listAt r i = some ds) : look2 r (.slot i) = some (.ow (.lst ds)) := by
  unfold listAt at h
  split at h
  · rename_i es q; cases h; exact q
  · cases h
section
variable {K : PySem.W.Frag} {B H : Hp} {σ : L2.St} {r : Ro} {O : Addr → Prop}
theorem rows_set {a : Addr} {xs' : List V} {ds' : List D} : ∀ {as : List Addr} {rows : List (List D)} {k : Nat}, RowsAt K B H as rows → as[k]? = some a → as.Nodup → DqAll K B xs' ds' → RowsAt K B (upd H a (.lst xs')) as (rows.set k ds')
  | _, _, _, .nil, _, _, _ => .nil
  | x :: xs, y :: ys, 0, .cons hx t, g, nd, d => by
    simp at g
    subst g
    exact .cons ⟨xs', upd_same, d⟩ (rowsAt_same (Same.refl _) t fun z hz => upd_ne fun e => (List.nodup_cons.mp nd).1 (e ▸ hz))
  | x :: xs, y :: ys, k + 1, .cons hx t, g, nd, d => by
    have g' : xs[k]? = some a := by simpa using g
    have nx : x ≠ a := fun e => (List.nodup_cons.mp nd).1 (e ▸ List.mem_of_getElem? g')
    refine .cons ?_ (rows_set t g' (List.nodup_cons.mp nd).2 d)
    obtain ⟨ws, w1, w2⟩ := hx
    exact ⟨ws, by rw [upd_ne nx]; exact w1, w2⟩
theorem bor_same {i : Nat} {x y : Sl} (h : r[i]? = some x) (hp : pinned x = true → pinned y = true) : Bor r σ (r.set i y) σ := bor_set h hp
/-- the list that slot i tells of, and what a change of it does -/
theorem Con.mut (c : Con K B H σ r O) {i : Nat} {ds : List D} (h : listAt r i = some ds) : ∃ l xs, σ[i]? = some (some (V.ref l)) ∧ H l = some (.lst xs) ∧ DqAll K B xs ds ∧
    ∀ xs' ds', DqAll K B xs' ds' → Con K B (upd H l (.lst xs')) σ (updSl r i ds') O ∧ Step B H O B (upd H l (.lst xs')) O ∧ Bor r σ (updSl r i ds') σ := by
  have h := listAt_look h
  have live : ∀ (l : Addr) o, ∀ a, H a ≠ none → upd H l o a ≠ none := fun l o a ha => by
    by_cases e : a = l
    · subst e; rw [upd_same]; simp
    · rw [upd_ne e]; exact ha
  simp only [look2] at h
  split at h
  · cases h
  · rename_i b ct q
    cases h
    obtain ⟨l, F, h1, o, h3⟩ := c.own i b _ q
    obtain ⟨rfl, xs, h4, h5⟩ := id o
    refine ⟨l, xs, h1, h4, h5, fun xs' ds' d => ?_⟩
    obtain ⟨c1, s1⟩ := c.change (ct' := .lst ds') (F' := [l]) (H' := upd H l (.lst xs')) q h1 o (fun a ha => upd_ne (by simpa using ha)) ⟨rfl, xs', upd_same, d⟩ (fun a ha => ha) (live l _) (fun rows e => by cases e)
    have e : updSl r i ds' = r.set i (.own b (.lst ds')) := by unfold updSl; rw [q]
    rw [e]
    exact ⟨c1, s1, bor_same q fun z => z⟩
  · rename_i j k q
    split at h
    · rename_i b rows q2
      cases q3 : rows[k]? with
      | none => rw [q3] at h; cases h
      | some es =>
        rw [q3] at h
        cases h
        obtain ⟨L, F, h1, o, h3⟩ := c.own j b _ q2
        obtain ⟨as, rfl, h2, nd, ra⟩ := id o
        obtain ⟨a, g1, g2⟩ := c.al i j k q b rows L as q2 h1 h2
        obtain ⟨a', g3, vs, g4, g5⟩ := paired_at ra q3
        rw [g1] at g3; cases g3
        have hm : a ∈ as := List.mem_of_getElem? g1
        have nL : L ≠ a := fun e => (List.nodup_cons.mp nd).1 (e ▸ hm)
        refine ⟨a, vs, g2, g4, g5, fun xs' ds' d => ?_⟩
        have ra' := rows_set (xs' := xs') ra g1 (List.nodup_cons.mp nd).2 d
        obtain ⟨c1, s1⟩ := c.change (ct' := .ll (rows.set k ds')) (F' := L :: as) (H' := upd H a (.lst xs')) q2 h1 o (fun x hx => upd_ne fun e => hx (by rw [e]; simp [hm]))
          ⟨as, rfl, by rw [upd_ne nL]; exact h2, nd, ra'⟩ (fun a ha => ha) (live a _) (fun rows' e => .inr ⟨upd_ne nL, rows, rfl⟩)
        have e : updSl r i ds' = r.set j (.own b (.ll (rows.set k ds'))) := by unfold updSl; rw [q]; simp only [q2]
        rw [e]
        exact ⟨c1, s1, bor_same q2 fun z => z⟩
    · cases h
  · cases h
end
/-- a method that changes its list, by values -/
def MutD (X : Cx) (id : String) (g : List D → List D → Option (List D × D)) : Prop :=
  MtR X id fun x vs H Q => ∃ B l xs ds es ds' d, Same B H ∧ x = .ref l ∧ H l = some (.lst xs) ∧ DqAll X.K B xs ds ∧ DqAll X.K B vs es ∧ g ds es = some (ds', d) ∧ ∀ xs' v, DqAll X.K B xs' ds' → Dq X.K B v d → Q v (upd H l (.lst xs'))
section
variable {X : Cx} {W : WX}
theorem mut_run {g : List D → List D → Option (List D × D)} {i : Nat} {as : List AV} {B : Hp} {r : Ro} {O : Addr → Prop} {σ : L2.St} {H : Hp} {vs : List V} {Q : VK} {l0 : Addr} (hs : σ[i]? = some (some (V.ref l0)))
    (h : At (Cx.g X) W (fun r => match listAt r i, looks2 r as with
    | some ds, some xs => match dataAll xs with
      | some es => (g ds es).map fun p => (.ok (.val p.2), updSl r i p.1)
      | none => none
    | _, _ => none) (rV (Cx.g X)) B r O σ H Q) (x : Paired (AvR X.K B σ) as vs) :
    ∃ B l xs ds es ds' d, Same B H ∧ V.ref l0 = .ref l ∧ H l = some (.lst xs) ∧ DqAll X.K B xs ds ∧ DqAll X.K B vs es ∧ g ds es = some (ds', d) ∧ ∀ xs' v, DqAll X.K B xs' ds' → Dq X.K B v d → Q v (upd H l (.lst xs')) := by
  obtain ⟨c, o, r', e, p⟩ := h
  simp only at e
  split at e
  · rename_i ds xs q1 q2
    split at e
    · rename_i es q3
      cases q4 : g ds es with
      | none => rw [q4] at e; cases e
      | some z =>
        obtain ⟨ds', d⟩ := z
        rw [q4] at e
        cases e
        obtain ⟨l, ys, h1, h2, h3, h4⟩ := c.mut q1
        rw [hs] at h1; cases h1
        refine ⟨B, _, ys, ds, es, ds', d, c.sub, rfl, h2, h3, dataAll_of q3 (c.looks2_ q2 x), q4, fun xs' v dx dv => ?_⟩
        obtain ⟨c1, s1, b1⟩ := h4 xs' ds' dx
        exact p B _ O v s1 c1 b1 dv
    · cases e
  · cases e
/-- x.m(e, ..) -/
theorem de_mut {name : Str} {id : String} {x e : Expr} {es : List Expr} {apos cpos : Pos} {g : List D → List D → Option (List D × D)} {i : Nat} {ms : List (M AV)} (pa : PlainAttrs "list") (slot : Slot "list" name id) (hty : typeOf (.builtin id) = pure (.type "method_descriptor"))
    (hm : MutD X id g) (ho : PE X x (tVar i)) (ha : DA X W (e :: es) (oL ms))
    (hbase : attributeBase x name X.env (eval x X.env) = eval x X.env := by rfl)
    (hfew : ((backTo cpos (starEach (e :: es) X.env)).all (fun x => !x.1) && (backToKw cpos (keywordEach [] X.env)).all (fun x => x.1.isSome)
      && decide ((e :: es).length + ([] : List Keyword).length + (if ([] : List Keyword).isEmpty then 0 else 1) < 30)) = true := by rfl)
    (hline : (apos.endLine == cpos.line) = true := by rfl) (hs : starEach (e :: es) X.env = (false, eval e X.env) :: starEach es X.env := by rfl) (hplain : (backTo cpos (starEach es X.env)).any (·.1) = false := by rfl) :
    DE X W (.Call (.Attribute x name apos) (e :: es) [] cpos) (mMut g i ms) := pe_weak (pe_bm pa slot hty hm ho ha hbase hfew hline hs hplain) fun σ H Q ⟨B, r, O, c, o, r', e, p⟩ => by
  unfold mMut at e
  split at e
  · cases e
  · rename_i ds q
    obtain ⟨l, ys, h1, h2, h3, h4⟩ := c.mut q
    refine ⟨.ref l, h1, .inl ⟨rfl, ys, .of h2⟩, tG.of ((At.bind (R := rL (Cx.g X)) ⟨c, o, r', e, p⟩ later_rV).mono ?_)⟩
    rintro vs H1 ⟨as, B1, r1, O1, s1, x1, h5⟩
    exact mut_run h1 h5 x1
theorem md_append : MutD X "list.append" gAppend := by
  intro pins s σ H x vs v us Q I rx rs h
  obtain ⟨B, l, xs, ds, es, ds', d, sb, rfl, hH, hd, he, hg, q⟩ := h
  unfold gAppend at hg
  split at hg
  · rename_i d0
    split at hg
    · rename_i hl
      cases hg
      cases he with
      | cons h1 t =>
        cases t
        exact mt_append pins s σ H _ _ v us Q I rx rs ⟨l, xs, _, rfl, rfl, hH, by rw [hd.length, ← line_eq]; exact hl, q _ _ (hd.append (.cons h1 .nil)) .non⟩
    · cases hg
  · cases hg
theorem md_insert : MutD X "list.insert" gInsert := by
  intro pins s σ H x vs v us Q I rx rs h
  obtain ⟨B, l, xs, ds, es, ds', d, sb, rfl, hH, hd, he, hg, q⟩ := h
  unfold gInsert at hg
  split at hg
  · rename_i i d0
    split at hg
    · rename_i hl
      cases hg
      cases he with
      | cons h1 t =>
        cases t with
        | cons h2 t =>
          cases t
          cases dp_int h1
          exact mt_insert pins s σ H _ _ v us Q I rx rs ⟨l, xs, i, _, rfl, rfl, hH, by rw [hd.length, ← line_eq]; exact hl.1, hl.2.1, hl.2.2, q _ _ (((hd.take _).append (.cons h2 .nil)).append (hd.drop _)) .non⟩
    · cases hg
  · cases hg
end
end DL
end

section
namespace DL
open PySem PySem.Spec PyProof.Rows L2
section
variable {X : Cx} {W : WX}
theorem AtS.exF {k : D → S} {m : M RV} {B : Hp} {r : Ro} {O : Addr → Prop} {σ : L2.St} {H : Hp} {D' : Ends} (h : AtS (Cx.g X) W (sEx (mFz m) k) B r O σ H D') :
    At (Cx.g X) W m (rV (Cx.g X)) B r O σ H fun y H1 => ∃ a B1 r1 O1, Step B H O B1 H1 O1 ∧ Bor r σ r1 σ ∧ Dq X.K B1 y a ∧ Con X.K B1 H1 σ r1 O1 ∧ ∃ o r', k a r1 = some (o, r') ∧ PostS (Cx.g X) W B r O σ H D' r' o :=
  At.froz (h.ex (R := rD (Cx.g X)))
/-- x[i] = e -/
theorem ds_sub {x e ie : Expr} {tpos pos : Pos} {i : Nat} {me : M RV} {mi : M AV} (ho : PE X x (tVar i)) (he : DE X W e me) (hi : DO X W ie mi)
    (ha : ∀ v, assign (.Subscript x ie tpos) X.env v = (do
      let ov ← holding [v] (eval x X.env)
      let iv ← holding [v, ov] (eval ie X.env)
      standAt tpos
      holding [v, ov, iv] (setItem ov iv v)
      release [v, ov, iv] []) := by intro _; rfl) (hs : swapsWithSole [.Subscript x ie tpos] e pos.line X.env = pure false := by rfl) (hw : swappedStores [.Subscript x ie tpos] e X.env = pure none := by rfl)
    (h1 : (assignEach [.Subscript x ie tpos] X.env).map (·.2) = [assign (.Subscript x ie tpos) X.env] := by rfl) : DS X W (.Assign [.Subscript x ie tpos] e pos) (sSub i me mi) :=
  ps_weak (ps_asg he (pg_sub ho hi set_list ha) hs hw h1) fun D σ H ⟨B, r, O, h⟩ => by
    refine tG.of (h.exF.mono ?_)
    rintro y H1 ⟨d, B1, r1, O1, s1, b1, x1, c1, o, r', e1, p⟩
    split at e1
    · cases e1
    · rename_i ds0 q0
      obtain ⟨l, xs0, g1, g2, g3, _⟩ := c1.mut q0
      refine ⟨.ref l, g1, ?_⟩
      -- the index
      have h2 : AtS (Cx.g X) W (sEx mi (fun a => fun r => match listAt r i, (look2 r a).bind Rs.data with
        | some ds, some (.int n) => (ixD ds.length n).map fun k => (.nx, updSl r i (ds.set k d))
        | _, _ => none)) B1 r1 O1 σ H1 D := AtS.after s1 c1 b1 e1 p
      refine tG.of ((h2.ex (R := rA (Cx.g X))).mono ?_)
      rintro z H2 ⟨a, B2, r2, O2, s2, b2, x2, c2, o2, r3, e2, p2⟩
      split at e2
      · rename_i ds n q1 q2
        cases q3 : ixD ds.length n with
        | none => rw [q3] at e2; cases e2
        | some k =>
          rw [q3] at e2
          cases e2
          obtain ⟨l', xs, k1, k2, k3, k4⟩ := c2.mut q1
          rw [g1] at k1; cases k1
          obtain ⟨rs, q4, q5⟩ := Option.bind_eq_some_iff.mp q2
          have rz : z = .int n := rs_int (c2.look2_ q4 x2) q5
          obtain ⟨c3, s3, b3⟩ := k4 (xs.set k y) (ds.set k d) (k3.set (dp_same s2.sB x1) k)
          exact ⟨l, xs, n, k, rfl, rz, k2, by rw [k3.length]; exact q3, p2 B2 _ O2 σ (s2.trans s3) c3 (b2.trans b3)⟩
      · cases e2
/-- x = rows[e] -/
theorem ds_al {x : Str} {re ie : Expr} {pos pos' spos : Pos} {i j : Nat} {mi : M AV} (hN : X.N.Nodup) (hi : X.N[i]? = some x) (hx : Loc X.env.scope x) (ho : PE X re (tVar j)) (he : DO X W ie mi) (hp : PlainIx ie)
    (hs : swapsWith (.Subscript re ie spos) (some (.Name x pos')) pos.line X.env = pure false := by rfl)
    (hf : X.fn x = true ∨ X.env.scope.names.lookup x = some .local := by first | exact .inl rfl | exact .inr rfl | assumption) : DS X W (.Assign [.Name x pos'] (.Subscript re ie spos) pos) (sAl i j mi) :=
  ps_weak (ps_set hN hi hx (pe_ix ix_list ho he hp) hs hf) fun D σ H ⟨B, r, O, c0, o, r', e, p⟩ => by
    have e0 := e
    unfold sAl at e
    split at e
    · rename_i b0 rows0 q0
      obtain ⟨l, F, h1, h2, h3⟩ := c0.own j b0 _ q0
      refine ⟨.ref l, h1, ?_⟩
      have h4 : AtS (Cx.g X) W (sEx mi (fun a => fun r => match r[j]?, (look2 r a).bind Rs.data, r[i]? with
        | some (.own _ (.ll rows)), some (.int n), some x => if i ≠ j ∧ putSl.pinnedB x = false then (ixD rows.length n).map fun k => (.nx, r.set i (.al j k)) else none
        | _, _, _ => none)) B r O σ H D := ⟨c0, o, r', e, p⟩
      refine tG.of ((h4.ex (R := rA (Cx.g X))).mono ?_)
      rintro z H2 ⟨a, B2, r2, O2, s2, b2, x2, c2, o2, r3, e2, p2⟩
      split at e2
      · rename_i b rows n y q1 q2 q3
        split at e2
        · rename_i hne
          cases q4 : ixD rows.length n with
          | none => rw [q4] at e2; cases e2
          | some k =>
            rw [q4] at e2
            cases e2
            obtain ⟨rs, q5, q6⟩ := Option.bind_eq_some_iff.mp q2
            have rz : z = .int n := rs_int (c2.look2_ q5 x2) q6
            obtain ⟨l', F', g1, ⟨as, rfl, g2, nd, ra⟩, g3⟩ := c2.own j b _ q1
            rw [h1] at g1; cases g1
            have hlen : as.length = rows.length := ra.length
            have hk : k < as.length := by
              rw [hlen]
              unfold ixD at q4
              split at q4
              · split at q4
                · cases q4; omega
                · cases q4
              · split at q4
                · cases q4; omega
                · cases q4
            have ga : as[k]? = some as[k] := List.getElem?_eq_getElem hk
            have hil : i < σ.length := by rw [← c2.len]; exact (List.getElem?_eq_some_iff.mp q3).1
            have c3 := c2.setAl (a := as[k]) hil q1 h1 g2 ga hne.1
            have bor : Bor r2 σ (r2.set i (.al j k)) (σ.set i (some (.ref as[k]))) := fun i2 w hw pw => by
              have hj : i2 ≠ i := fun e => by
                subst e
                rw [q3] at hw; cases hw
                have := hne.2
                cases y <;> simp_all [pinned, putSl.pinnedB]
              exact ⟨⟨w, by rw [List.getElem?_set_ne (Ne.symm hj)]; exact hw, pw⟩, List.getElem?_set_ne (Ne.symm hj)⟩
            refine ⟨l, as.map V.ref, n, .ref as[k], rfl, rz, .of g2, ?_, p2 B2 H2 O2 _ s2 c3 (b2.trans bor)⟩
            show (ixN (as.map V.ref).length n).bind _ = _
            rw [List.length_map, hlen, show ixN rows.length n = some k from q4]
            show (as.map V.ref)[k]? = _
            rw [List.getElem?_map, ga]
            rfl
        · cases e2
      · cases e2
    · cases e
/-- a, b = e, f -/
theorem ds_par {i j : Nat} {x y : Str} {a b : Expr} {px py pt pos : Pos} {kt k2 pt2} {m n : M RV} (hc : X.calm = true) (hN : X.N.Nodup) (hi : X.N[i]? = some x) (hj : X.N[j]? = some y) (hij : i ≠ j)
    (hx : X.env.scope.names.lookup x = some .local) (hy : X.env.scope.names.lookup y = some .local) (ha : DE X W a m) (hb : DE X W b n)
    (hw : swappedStores [.Tuple [.Name x px, .Name y py] kt pt] (.Tuple [a, b] k2 pt2) X.env = pure (some [x, y]))
    (hs : swapsWithSole [.Tuple [.Name x px, .Name y py] kt pt] (.Tuple [a, b] k2 pt2) pos.line X.env = pure false := by rfl)
    (h1 : starEach [a, b] X.env = (false, eval a X.env) :: starEach [b] X.env := by rfl) (h2 : starEach [b] X.env = (false, eval b X.env) :: starEach [] X.env := by rfl) :
    DS X W (.Assign [.Tuple [.Name x px, .Name y py] kt pt] (.Tuple [a, b] k2 pt2) pos) (sPar i j m n) :=
  ps_weak (L2.ps_par hc hN hi hj hij hx hy (pa_cons ha (pa_cons hb pa_nil h2) h1) hw hs) fun D σ H ⟨B, r, O, h⟩ => by
    refine tG.of (h.exF.mono ?_)
    rintro v H1 ⟨d, B1, r1, O1, s1, b1, x1, c1, o, r', e1, p⟩
    have hh : AtS (Cx.g X) W (sEx (mFz n) fun e => sSeq (putSl i (.val d)) (putSl j (.val e))) B1 r1 O1 σ H1 D := AtS.after s1 c1 b1 e1 p
    refine tG.of (hh.exF.mono ?_)
    rintro w H2 ⟨e, B2, r2, O2, s2, b2, x2, c2, o2, r3, e2, p2⟩
    refine ⟨v, w, rfl, ?_⟩
    unfold sSeq at e2
    cases q : putSl i (.val d) r2 with
    | none => rw [q] at e2; cases e2
    | some z =>
      obtain ⟨o3, r4⟩ := z
      obtain ⟨rfl, O3, c3, b3, h3⟩ := put_ok (H0 := H1) c2 q (show RvR X.K H1 B2 H2 O2 (.val d) v from dp_same s2.sB x1) s2.live
      rw [q] at e2
      obtain ⟨rfl, O4, c4, b4, h4⟩ := put_ok (H0 := H1) c3 e2 (show RvR X.K H1 B2 H2 O3 (.val e) w from x2) s2.live
      exact p2 B2 H2 O4 _ (put_step (put_step s2 h3) h4) c4 (b2.trans (b3.trans b4))
end
end DL
end

section
namespace DL
open PySem PySem.Spec PyProof.Rows L2
section
variable {X : Cx} {W : WX}
theorem rowsAt_snoc {K : PySem.W.Frag} {B H : Hp} {l : Addr} {ds : List D} : ∀ {as : List Addr} {rows : List (List D)}, RowsAt K B H as rows → (∃ vs, H l = some (.lst vs) ∧ DqAll K B vs ds) → RowsAt K B H (as ++ [l]) (rows ++ [ds])
  | _, _, .nil, h => .cons h .nil
  | _, _, .cons a t, h => .cons a (rowsAt_snoc t h)
theorem lcL_read {lo : Bool} {mi : M (List D)} {vs ix : List Nat} {set : D → S} {t : M Bool} {me : M RV} (hix : ∀ j ∈ ix, j ∈ vs) {σ : L2.St} {H : Hp} {Q : VK} (h : tG (Cx.g X) W (mLcL vs mi set t me) (rV (Cx.g X)) σ H Q) :
    tLc (tG (Cx.g X) W mi (rI (Cx.g X) lo)) (gD X.K lo ix set) (tG (Cx.g X) W0 t rB) (tG (Cx.g X) W0 me (rV (Cx.g X))) vs σ H Q := by
  obtain ⟨B, r, O, h⟩ := h
  refine tG.of ((h.bind later_rV (R := rI (Cx.g X) lo)).mono ?_)
  rintro J H1 ⟨ds, B1, r1, O1, s1, x1, c1, o, r', e, p⟩
  intro D hD
  have sv : Serves X.K lo J B1 ds := x1
  simp only at e
  split at e
  · cases e
  · rename_i np
    have np : anyPin r1 vs = false := by simpa using np
    cases q : lcL vs set t me ds [] (wipeR r1 vs) with
    | none => rw [q] at e; cases e
    | some z =>
      obtain ⟨xs, rf⟩ := z
      rw [q] at e
      cases e
      obtain ⟨bD, nD, c2, s2⟩ := c1.lay (o := .lst []) hD
      have wl := wipe_length σ vs
      have wo : ∀ j : Nat, j ∉ vs → (wipe σ vs)[j]? = σ[j]? := fun j hj => wipe_out hj
      refine ⟨fun i m H' => m = ds.length - i ∧ i ≤ ds.length ∧ ∃ B' r2 O' acc ad, Step B1 H1 O1 B' H' O' ∧ Con X.K B' H' (wipe σ vs) r2 O' ∧ Clear r2 vs ∧ Bor r1 σ r2 (wipe σ vs) ∧ H' D = some (.lst (acc.map V.ref)) ∧ RowsAt X.K B' H' acc ad ∧ (D :: acc).Nodup ∧ (∀ a ∈ D :: acc, H1 a = none ∧ B' a = none ∧ ¬ O' a) ∧ lcL vs set t me (ds.drop i) ad r2 = some (xs, rf),
        ⟨ds.length, by simp, Nat.zero_le _, B1, _, O1, [], [], s2, c2.wiped wl wo, fun i hi x hx => wipeR_in hi hx, bor_wipe np wo, upd_same, .nil, by simp, fun a ha => (by simp at ha; subst ha; exact ⟨hD, bD, nD⟩), q⟩, ?_⟩
      rintro i m H2 ⟨rfl, hi2, B2, r2, O2, acc, ad, s3, c3, k3, b3, hA, hQ, nd2, fr2, e2⟩
      have same : Same B1 H2 := s3.sB.trans c3.sub
      by_cases hlt : i < ds.length
      · refine .inr ⟨sv.go i H2 hlt same, fun H' => i + 1 ≤ ds.length ∧ ∃ B' r2 O' acc ad, Step B1 H1 O1 B' H' O' ∧ Con X.K B' H' (wipe σ vs) r2 O' ∧ Clear r2 vs ∧ Bor r1 σ r2 (wipe σ vs) ∧ H' D = some (.lst (acc.map V.ref)) ∧ RowsAt X.K B' H' acc ad ∧ (D :: acc).Nodup ∧ (∀ a ∈ D :: acc, H1 a = none ∧ B' a = none ∧ ¬ O' a) ∧ lcL vs set t me (ds.drop (i + 1)) ad r2 = some (xs, rf),
          fun H' z => ⟨ds.length - (i + 1), by omega, rfl, z⟩, fun x H3 y => ?_⟩
        have ed : ds.drop i = ds[i] :: ds.drop (i + 1) := (List.drop_eq_getElem_cons hlt)
        rw [ed] at e2
        obtain ⟨B3, s4, c4, d4⟩ : ∃ B3, Step B2 H2 O2 B3 H3 O2 ∧ Con X.K B3 H3 (wipe σ vs) r2 O2 ∧ (Dq X.K B3 x ds[i] ∨ (lo = true ∧ Dw X.K B3 x ds[i])) := by
          rcases sv.yld i H2 x H3 ds[i] (List.getElem?_eq_getElem hlt) same y B2 s3.sB c3.sub with ⟨rfl, d⟩ | ⟨hlo, T, ws, hT, rfl, d⟩
          · exact ⟨B2, .refl, c3, .inl d⟩
          · obtain ⟨c5, s5⟩ := c3.layF (o := .tup ws) hT
            exact ⟨_, s5, c5, .inr ⟨hlo, d⟩⟩
        simp only [lcL] at e2
        cases q1 : set ds[i] r2 with
        | none => rw [q1] at e2; cases e2
        | some z1 =>
          obtain ⟨o1, r3⟩ := z1
          rw [q1] at e2
          cases o1 with
          | nx =>
            refine ⟨B3, r2, O2, ds[i], r3, c4, d4, q1, fun σ2 c5 b5 k5 l5 => ⟨?_, ?_⟩⟩
            · apply List.ext_getElem?
              intro j
              by_cases hj : j ∈ vs
              · by_cases hl : j < σ.length
                · have g : ∀ τ : L2.St, τ.length = σ.length → (wipe τ vs)[j]? = some none := fun τ hτ => by
                    cases qq : (wipe τ vs)[j]? with
                    | none => rw [List.getElem?_eq_none_iff, wipe_length] at qq; omega
                    | some w => cases w with
                      | none => rfl
                      | some w => exact absurd qq (wipe_in hj)
                  rw [g σ rfl, g σ2 (l5.trans wl)]
                · rw [List.getElem?_eq_none (by rw [wipe_length, l5, wl]; omega), List.getElem?_eq_none (by rw [wl]; omega)]
              · rw [wipe_out hj, wipe_out hj, k5 j (fun z => hj (hix j z)), wipe_out hj]
            · simp only at e2
              cases q2 : t r3 with
              | none => rw [q2] at e2; cases e2
              | some z2 =>
                obtain ⟨o2, r4⟩ := z2
                rw [q2] at e2
                refine ⟨B3, r3, O2, c5, o2, r4, q2, ?_⟩
                cases o2 with
                | exc x => cases e2
                | ok b =>
                  intro B5 H5 O5 b' s6 c6 b6 hb'
                  cases hb'
                  have s36 : Step B1 H1 O1 B5 H5 O5 := (s3.trans s4).trans s6
                  have k25 : ∀ a ∈ D :: acc, H5 a = H2 a ∧ B5 a = none ∧ ¬ O5 a := fun a ha => by
                    obtain ⟨f1, f2, f3⟩ := fr2 a ha
                    have hne : H2 a ≠ none := by
                      rcases List.mem_cons.mp ha with z | z
                      · rw [z, hA]; simp
                      · exact rowsAt_some hQ a z
                    have s46 := s4.trans s6
                    refine ⟨?_, s46.nB a hne f3 f2, fun z => ?_⟩
                    · cases qq : H2 a with
                      | none => exact absurd qq hne
                      | some w => exact s46.keep a w qq f3
                    · rcases s46.nO a z with z | z
                      · exact f3 z
                      · exact hne z
                  have hA5 : H5 D = some (.lst (acc.map V.ref)) := by rw [(k25 D (by simp)).1]; exact hA
                  have hQ5 : RowsAt X.K B5 H5 acc ad := rowsAt_same (s4.sB.trans s6.sB) hQ fun a ha => (k25 a (by simp [ha])).1
                  cases b with
                  | false =>
                    exact iteF ⟨hlt, B5, wipeR r4 vs, O5, acc, ad, s36, c6.wiped (wl.trans (l5.trans wl).symm |>.trans rfl) fun j hj => (k5 j fun z => hj (hix j z)).symm, fun i hi x hx => wipeR_in hi hx, bor_wipe2 np (b3.trans (b5.trans b6)) wo, hA5, hQ5, nd2, fun a ha => ⟨(fr2 a ha).1, (k25 a ha).2⟩, e2⟩
                  | true =>
                    simp only at e2
                    cases q3 : me r4 with
                    | none => rw [q3] at e2; cases e2
                    | some z3 =>
                      obtain ⟨o3, r5⟩ := z3
                      rw [q3] at e2
                      cases o3 with
                      | exc x => cases e2
                      | ok rv =>
                        cases rv with
                        | val d => cases e2
                        | new ct =>
                          cases ct with
                          | lst ds2 =>
                            simp only at e2
                            split at e2
                            · rename_i hz
                              refine iteT (tG.of ⟨c6, .ok (.new (.lst ds2)), r5, q3, fun B6 H6 O6 y6 s7 c7 b7 d7 => ?_⟩)
                              obtain ⟨l, F, rfl, ⟨rfl, vs2, w1, w2⟩, w3⟩ := d7
                              obtain ⟨n1, n2, n3⟩ := w3 l (by simp)
                              have k26 : ∀ a ∈ D :: acc, H6 a = H5 a ∧ B6 a = none ∧ ¬ O6 a ∧ a ≠ l := fun a ha => by
                                obtain ⟨f1, f2, f3⟩ := k25 a ha
                                have hne : H5 a ≠ none := by
                                  rcases List.mem_cons.mp ha with z | z
                                  · rw [z, hA5]; simp
                                  · exact rowsAt_some hQ5 a z
                                refine ⟨?_, s7.nB a hne f3 f2, fun z => ?_, fun z => hne (z ▸ n1)⟩
                                · cases qq : H5 a with
                                  | none => exact absurd qq hne
                                  | some w => exact s7.keep a w qq f3
                                · rcases s7.nO a z with z | z
                                  · exact f3 z
                                  · exact hne z
                              have hA6 : H6 D = some (.lst (acc.map V.ref)) := by rw [(k26 D (by simp)).1]; exact hA5
                              have nDl : D ≠ l := (k26 D (by simp)).2.2.2
                              have bD6 := (k26 D (by simp)).2.1
                              have nD6 := (k26 D (by simp)).2.2.1
                              refine ⟨acc.map V.ref, hA6, by rw [List.length_map, hQ5.length, ← line_eq]; exact hz, hlt, ?_⟩
                              have c8 : Con X.K B6 (upd H6 D (.lst (acc.map V.ref ++ [.ref l]))) σ2 r5 O6 := c7.mono (Same.refl _) (fun a w ha => by
                                by_cases z : a = D
                                · subst z; rw [bD6] at ha; cases ha
                                · rw [upd_ne z]; exact c7.sub a w ha) (fun a ha => upd_ne (show a ≠ D from fun z => nD6 (by rw [← z]; exact ha))) c7.off
                              have s37 := s36.trans s7
                              have s9 : Step B1 H1 O1 B6 (upd H6 D (.lst (acc.map V.ref ++ [.ref l]))) O6 := ⟨s37.sB, fun a w ha na => by
                                rw [upd_ne (ne_of_none ha hD)]
                                exact s37.keep a w ha na, fun a ha => by
                                by_cases z : a = D
                                · subst z; rw [upd_same]; simp
                                · rw [upd_ne z]; exact s37.live a ha, s37.nB, s37.nO⟩
                              have nl1 : H1 l = none := by
                                by_cases z : H1 l = none
                                · exact z
                                · exact absurd n1 (s36.live l z)
                              refine ⟨B6, wipeR r5 vs, O6, acc ++ [l], ad ++ [ds2], s9, c8.wiped (wl.trans (l5.trans wl).symm |>.trans rfl) fun j hj => (k5 j fun z => hj (hix j z)).symm, fun i hi x hx => wipeR_in hi hx, bor_wipe2 np (b3.trans (b5.trans (b6.trans b7))) wo, by rw [upd_same, List.map_append]; rfl, ?_, ?_, fun a ha => ?_, e2⟩
                              · refine rowsAt_snoc (rowsAt_same s7.sB hQ5 fun a ha => ?_) ⟨vs2, by rw [upd_ne nDl.symm]; exact w1, w2⟩
                                rw [upd_ne (show a ≠ D from fun z => (List.nodup_cons.mp nd2).1 (z ▸ ha))]
                                exact (k26 a (by simp [ha])).1
                              · have e : D :: (acc ++ [l]) = (D :: acc) ++ [l] := rfl
                                rw [e, List.nodup_append]
                                exact ⟨nd2, by simp, fun a ha b hb => by simp at hb; subst hb; exact (k26 a ha).2.2.2⟩
                              · have ha : a ∈ (D :: acc) ++ [l] := ha
                                rcases List.mem_append.mp ha with ha | ha
                                · exact ⟨(fr2 a ha).1, (k26 a ha).2.1, (k26 a ha).2.2.1⟩
                                · simp at ha
                                  subst ha
                                  exact ⟨nl1, n2, n3⟩
                            · cases e2
                          | _ => cases e2
          | _ => cases e2
      · have ei : i = ds.length := by omega
        subst ei
        rw [List.drop_length] at e2
        cases e2
        refine .inl ⟨sv.stop H2 same, p B2 H2 O2 (.ref D) s3 ?_ (fun i x hx px => ⟨(b3 i x hx px).1, rfl⟩) ⟨D, D :: acc, rfl, ⟨acc, rfl, hA, nd2, hQ⟩, fun a ha => fr2 a ha⟩⟩
        have c9 := c3.wiped (σ' := σ) wl.symm fun j hj => (wo j hj).symm
        rw [clear_wipe k3] at c9
        exact c9
theorem ds_setLcL {lo : Bool} {i : Nat} {y : Str} {py : Pos} {elt tg iter : Expr} {ifs : List Expr} {scope : Scope} {own : List (Str × Nat)} {pos spos : Pos} {mi : M (List D)} {ix : List Nat} {set : D → S} {t : M Bool} {me : M RV} (hc : X.calm = true) (hN : X.N.Nodup) (hy : X.N[i]? = some y) (hyl : X.env.scope.names.lookup y = some .local)
    (hsw : swapsWith (.ListComp elt [⟨tg, iter, ifs, 0⟩] scope pos) (some (.Name y py)) spos.line X.env = pure true) (hi : DI X W lo tg iter mi) (ok : BlkOk X.N X.env.scope scope own)
    (hg : ∀ (s : Shared) (H : Hp) (C : Addr) (cl : List (Str × Addr)) (fp : List Addr), DG (X.blk s H scope (compEnvC scope cl C X.env) fp) lo tg ix set) (ht : ∀ (s : Shared) (H : Hp) (C : Addr) (cl : List (Str × Addr)) (fp : List Addr), DTs (X.blk s H scope (compEnvC scope cl C X.env) fp) W0 ifs t)
    (he : ∀ (s : Shared) (H : Hp) (C : Addr) (cl : List (Str × Addr)) (fp : List Addr), DE (X.blk s H scope (compEnvC scope cl C X.env) fp) W0 elt me) (hix : ∀ j ∈ ix, j ∈ own.map (·.2)) (hs : ∀ x, foldedSetIterable iter X.env x = pure x := by intro _; rfl) :
    DS X W (.Assign [.Name y py] (.ListComp elt [⟨tg, iter, ifs, 0⟩] scope pos) spos) (sSet i (mLcL (own.map (·.2)) mi set t me)) :=
  ds_setG (ps_weak (ps_setLc (g := gD X.K lo ix set) (tt := tG (Cx.g X) W0 t rB) (te := tG (Cx.g X) W0 me (rV (Cx.g X))) hc hN hy hyl hsw hi ok hg ht he hs) fun D σ H h => lcL_read hix h)
end
end DL
end

section
namespace DL
open PySem
def gLen : List Rs → Option RV
  | [.ow (.ll rows)] => some (.val (.int rows.length))
  | [.ow (.dK kvs)] => some (.val (.int kvs.length))
  | [a] => match a.data with
    | some (.list xs) => some (.val (.int xs.length))
    | some (.tuple xs) => some (.val (.int xs.length))
    | some (.str x) => if x.length ≤ lineD then some (.val (.int x.length)) else none
    | _ => none
  | _ => none
end DL
end

section
namespace DL
open PySem PySem.Spec PyProof.Rows L2
section
variable {X : Cx} {W : WX}
theorem At.opsL {lo : Bool} {ms : List (M AV)} {g : List Rs → Option (List D)} {B : Hp} {r : Ro} {O : Addr → Prop} {σ : L2.St} {H : Hp} {Q : It → Hp → Prop} (h : At (Cx.g X) W (mOpL g ms) (rI (Cx.g X) lo) B r O σ H Q) :
    At (Cx.g X) W (oL ms) (rL (Cx.g X)) B r O σ H fun vs H1 => ∃ B1 xs ds, Same B1 H1 ∧ Paired (RsR X.K B1 H1) xs vs ∧ g xs = some ds ∧ ∀ J, Serves X.K lo J B1 ds → Q J H1 := by
  refine (h.bind later_rI (R := rL (Cx.g X))).mono ?_
  rintro vs H1 ⟨as, B1, r1, O1, s1, x1, c, o, r', e, p⟩
  simp only at e
  split at e
  · cases e
  · rename_i xs q
    cases q2 : g xs with
    | none => rw [q2] at e; cases e
    | some ds =>
      rw [q2] at e
      cases e
      exact ⟨B1, xs, ds, c.sub, c.looks2_ q x1, q2, fun J sv => p B1 H1 O1 J .refl c .refl sv⟩
theorem okR_of {i : Int} (h : okR i = true) : -(2 ^ 62) ≤ i ∧ i < 2 ^ 62 := by
  unfold okR at h
  simpa using h
theorem di_rng1 {lb : Bool} {tg a : Expr} {p pos : Pos} {ma : M AV} (hg : Gl X "range") (hm : X.mg "range" = none) (ha : DO X W a ma) (hs : starEach [a] X.env = [(false, eval a X.env)] := by rfl) (hs2 : starEach [a] X.env = (false, eval a X.env) :: starEach [] X.env := by rfl) : DI X W lb tg (.Call (.Name "range" p) [a] [] pos) (mOpL gRng1 [ma]) :=
  pi_weak (pi_range1 hg hm (da_cons ha da_nil hs2) hs) fun σ H Q ⟨B, r, O, h⟩ => by
    refine tG.of (h.opsL.mono ?_)
    rintro vs H1 ⟨B1, xs, ds, sb, p, hg, q⟩
    unfold gRng1 at hg
    split at hg
    · rename_i j
      split at hg
      · rename_i hj
        cases hg
        cases p with
        | cons p1 p =>
          cases p
          cases dp_int p1
          obtain ⟨h1, h2⟩ := okR_of hj
          refine ⟨j, rfl, h1, h2, q _ ?_⟩
          have := serves_range (lb := lb) (K := X.K) (B0 := B1) (lo := 0) (hi := j)
          rwa [Int.sub_zero] at this
      · cases hg
    · cases hg
def rO : Rl (Option Int) (Option Int) := fun _ _ _ _ _ a b => a = b
theorem later_rO : Later rO := fun _ _ _ _ _ _ _ _ _ h => h
def DP (X : Cx) (W : WX) (e : Option Expr) (m : M (Option Int)) : Prop := PO X e (tG (Cx.g X) W m rO)
theorem dp_none : DP X W none (mBd none) := ⟨fun pins s σ H Q I ⟨B, r, O, h⟩ => po_none.run pins s σ H Q I (h.ret rfl)⟩
theorem dp_some {e : Expr} {m : M AV} (h : DO X W e m) : DP X W (some e) (mBd (some m)) := ⟨fun pins s σ H Q I ⟨B, r, O, g⟩ => (po_some h).run pins s σ H Q I (by
  refine tG.of ((At.bind g later_rO (R := rA (Cx.g X))).mono ?_)
  rintro v H1 ⟨a, B1, r1, O1, s1, x1, c, o, r', e, p⟩
  simp only at e
  split at e
  · rename_i n q
    cases e
    obtain ⟨rs, q1, q2⟩ := Option.bind_eq_some_iff.mp q
    exact ⟨n, rs_int (c.look2_ q1 x1) q2, p B1 H1 O1 _ .refl c .refl rfl⟩
  · cases e)⟩
theorem sIxD_eq (n d : Nat) (o : Option Int) : sIxD n d o = HT.sIx n d o := by cases o <;> rfl
theorem cutD_cut {xs : List V} {lo hi : Option Int} : cutD xs lo hi = cutV xs lo hi := by
  unfold cutD cutV
  rw [sIxD_eq, sIxD_eq]
theorem DqAll.cut {K : PySem.W.Frag} {H : Hp} {vs : List V} {ds : List D} (h : DqAll K H vs ds) (lo hi : Option Int) : DqAll K H (cutV vs lo hi) (cutD ds lo hi) := by
  rw [← cutD_cut]
  unfold cutD
  rw [h.length]
  exact (h.drop _).take _
theorem scrL_eq : ∀ (ns : List Int), scrL (ns.map fun n => (PyData.int n, PyData.none)) = some ns
  | [] => rfl
  | n :: ns => by
    show (scrL (ns.map fun n => (PyData.int n, PyData.none))).map (n :: ·) = _
    rw [scrL_eq ns]
    rfl
theorem scrOf_eq (ns : List Int) : scrOf ((PyData.none, PyData.none) :: ns.map fun n => (PyData.int n, PyData.none)) = some ns := scrL_eq ns
theorem dq_ints {K : PySem.W.Frag} {H : Hp} : ∀ ns : List Int, DqAll K H (ns.map V.int) (ns.map PyData.int)
  | [] => .nil
  | n :: ns => .cons (.int n) (dq_ints ns)
theorem cut_map {α β : Type} (f : α → β) (xs : List α) (lo hi : Option Int) : cutD (xs.map f) lo hi = (cutD xs lo hi).map f := by
  unfold cutD
  rw [List.length_map, List.map_take, List.map_drop]
/-- a[lo:hi] of lists, tuples, the script -/
theorem sl_any {a : Rs} {B H : Hp} {lo hi : Option Int} {v : V} {z : RV} {Q : VK} (sb : Same B H) (h : RsR X.K B H a v) (e : gCut lo hi a = some z) (q : ∀ H' v, Alc X.K B H H' z v → Q v H') : rSlL X.K v lo hi H Q ∨ rSlF X.K v lo hi H Q := by
  unfold gCut at e
  split at e
  · rename_i xs q1
    cases e
    obtain ⟨l, vs, rfl, h1, d1⟩ := rs_list sb h q1
    exact .inl ⟨l, vs, rfl, .of h1, alc_lst q (d1.cut lo hi)⟩
  · rename_i xs q1
    cases e
    obtain ⟨l, vs, rfl, h1, d1⟩ := rs_tuple sb h q1
    refine .inr ⟨l, vs, rfl, h1.sq, fun hw => ?_, fun _ => alc_tup q (d1.cut lo hi)⟩
    have : cutD xs lo hi = xs := by
      unfold cutD
      rw [sIxD_eq, sIxD_eq, ← d1.length, hw.1, hw.2, List.drop_zero, d1.length, Nat.sub_zero]
      exact List.take_length
    rw [this] at q
    cases a with
    | fz d => cases q1; exact alc_val q h
    | ow c => cases c <;> cases q1
  · rename_i kvs q1
    cases q2 : scrOf kvs with
    | none => rw [q2] at e; cases e
    | some ns =>
      rw [q2] at e
      cases e
      cases a with
      | ow c => cases c <;> cases q1
      | fz d =>
        cases q1
        cases h with
        | dic s => cases q2
        | fn s hd => unfold fnD at hd; cases hd; cases q2
        | @scr l ms d hs hd =>
          have hk : kvs = (PyData.none, PyData.none) :: ms.map fun n => (PyData.int n, PyData.none) := by
            unfold scrD at hd
            cases hd; rfl
          subst hk
          rw [scrOf_eq] at q2
          cases q2
          refine .inl ⟨l, _, rfl, sb.seq hs, alc_lst q ?_⟩
          rw [← cutD_cut, cut_map]
          exact dq_ints _
  · cases e
theorem de_slice {a : Expr} {lo hi : Option Expr} {p2 pos : Pos} {ma : M AV} {ml mh : Option (M AV)} (ha : DO X W a ma) (hl : DP X W lo (mBd ml)) (hh : DP X W hi (mBd mh)) : DE X W (.Subscript a (.Slice lo hi none p2) pos) (mSl ma ml mh) :=
  pe_weak (pe_slice (SlR.or sl_list fsl_tup) ha hl hh) fun σ H Q ⟨B, r, O, h⟩ => by
    refine tG.of ((h.bind later_rV (R := rA (Cx.g X))).mono ?_)
    rintro v H1 ⟨a, B1, r1, O1, s1, x1, h1⟩
    refine tG.of ((h1.bind later_rV (R := rO)).mono ?_)
    rintro l H2 ⟨l', B2, r2, O2, s2, rfl, h2⟩
    refine tG.of ((h2.bind later_rV (R := rO)).mono ?_)
    rintro u H3 ⟨u', B3, r3, O3, s3, rfl, c, o, r', e, p⟩
    simp only at e
    cases q : (look2 r3 a).bind (gCut l' u') with
    | none => rw [q] at e; cases e
    | some z =>
      rw [q] at e
      cases e
      obtain ⟨rs, q1, q2⟩ := Option.bind_eq_some_iff.mp q
      have x3 := (AvR.same (s2.sB.trans s3.sB) x1)
      refine sl_any c.sub (c.look2_ q1 x3) q2 fun H' v al => ?_
      obtain ⟨B', s, c', rv⟩ := c.alc al
      exact p B' H' O3 v s c' .refl rv
theorem ints_dq {K : PySem.W.Frag} {H : Hp} : ∀ {ds : List D} {ns : List Int} {vs : List V}, intsD ds = some ns → DqAll K H vs ds → vs = ns.map V.int
  | [], _, _, h, d => by cases h; cases d; rfl
  | .int i :: ds, ns, _, h, d => by
    cases d with
    | cons h1 t =>
      simp only [intsD] at h
      cases q : intsD ds with
      | none => rw [q] at h; cases h
      | some ms =>
        rw [q] at h
        cases h
        rw [dp_int h1, ints_dq q t]
        rfl
  | .none :: _, _, _, h, _ => by cases h
  | .bool _ :: _, _, _, h, _ => by cases h
  | .str _ :: _, _, _, h, _ => by cases h
  | .list _ :: _, _, _, h, _ => by cases h
  | .tuple _ :: _, _, _, h, _ => by cases h
  | .dict _ :: _, _, _, h, _ => by cases h
end
end DL
end

section
namespace DL
open PySem PySem.Spec PyProof.Rows L2
section
variable {X : Cx} {W : WX}
theorem cd_len : CallD X (.builtin "len") gLen := by
  intro pins s σ H vs us Q I r ⟨B, as, z, sb, p, hg, q⟩
  unfold gLen at hg
  split at hg
  · rename_i rows
    cases hg
    cases p with
    | cons p1 p =>
      cases p
      obtain ⟨l, F, rfl, as, rfl, g1, _, g2⟩ := p1
      exact call_len_seq pins s σ H _ us Q I r ⟨l, _, rfl, .inl (.of g1), by rw [List.length_map, g2.length]; exact alc_val q (.int _)⟩
  · rename_i kvs
    cases hg
    cases p with
    | cons p1 p =>
      cases p
      obtain ⟨l, F, rfl, rfl, vs, g1, g2⟩ := p1
      exact call_lenD pins s σ H _ us Q I r ⟨l, vs, rfl, g1, by rw [show vs.length = kvs.length from g2.length]; exact alc_val q (.int _)⟩
  · rename_i a
    cases p with
    | cons p1 p =>
      cases p
      split at hg
      · rename_i xs e
        cases hg
        obtain ⟨l, ms, rfl, g1, g2⟩ := rs_list sb p1 e
        exact call_len_seq pins s σ H _ us Q I r ⟨l, ms, rfl, .inl (.of g1), by rw [g2.length]; exact alc_val q (.int _)⟩
      · rename_i xs e
        cases hg
        obtain ⟨l, ms, rfl, g1, g2⟩ := rs_tuple sb p1 e
        exact call_len_seq pins s σ H _ us Q I r ⟨l, ms, rfl, .inr g1.sq, by rw [g2.length]; exact alc_val q (.int _)⟩
      · rename_i x e
        split at hg
        · rename_i hl
          cases hg
          cases rs_str p1 e
          exact call_len_str pins s σ H _ us Q I r ⟨x, rfl, by rw [← line_eq]; exact hl, alc_val q (.int _)⟩
        · cases hg
      · cases hg
  · cases hg
end
end DL
end

section
namespace DL
open PySem
def putD {κ : Type} [DecidableEq κ] (kvs : List (κ × D)) (k : κ) (v : D) : List (κ × D) :=
  if kvs.any (fun kv => decide (kv.1 = k)) = true then kvs.map fun kv => if kv.1 = k then (kv.1, v) else kv else kvs ++ [(k, v)]
def valD {κ : Type} [DecidableEq κ] (kvs : List (κ × D)) (k : κ) : Option D := (kvs.find? fun kv => decide (kv.1 = k)).map (·.2)
def mNewK : M RV := M.ret (.new (.dK []))
/-- the dict in slot i -/
def dictAt (r : Ro) (i : Nat) : Option (List (Ky × D)) := match r[i]? with
  | some (.own _ (.dK kvs)) => some kvs
  | _ => none
def keyAt (r : Ro) (a : AV) : Option Ky := ((look2 r a).bind Rs.data).bind kyOf
def hasD (r : Ro) (i : Nat) : Bool := (dictAt r i).isSome
/-- k in d -/
def fIn (neg : Bool) (i : Nat) (a : AV) : M RV := fun r => match dictAt r i, keyAt r a with
  | some kvs, some k => some (.ok (.val (.bool (if neg then !(valD kvs k).isSome else (valD kvs k).isSome))), r)
  | _, _ => none
def mIn (neg : Bool) (i : Nat) (mk : M AV) : M RV := mk.bind (fIn neg i)
/-- d[k] = e -/
def sPut (i : Nat) (me : M RV) (mk : M AV) : S := sEx (mFz me) fun d => fun r => if hasD r i then sEx mk (fun a => fun r => match r[i]?, keyAt r a with
  | some (.own b (.dK kvs)), some k => if kvs.length < lineD then some (.nx, r.set i (.own b (.dK (putD kvs k d)))) else none
  | _, _ => none) r else none
end DL
end

section
namespace DL
open PySem PySem.Spec PyProof.Rows L2
section
variable {K : PySem.W.Frag} {B H : Hp}
theorem kv_val {vs : List (Ky × V)} {kvs : List (Ky × D)} (h : KvR K B vs kvs) (k : Ky) : match valD kvs k with
    | some d => ∃ v, valV vs k = some v ∧ Dq K B v d
    | none => valV vs k = none := by
  induction h with
  | nil => rfl
  | @cons p q ps qs hp t ih =>
    obtain ⟨h1, h2⟩ := hp
    by_cases e : q.1 = k
    · have e' : p.1 = k := h1.trans e
      rw [show valD (q :: qs) k = some q.2 by unfold valD; simp [List.find?_cons, e]]
      exact ⟨p.2, valV_pos e', h2⟩
    · have e' : ¬ p.1 = k := fun z => e (h1.symm.trans z)
      rw [show valD (q :: qs) k = valD qs k by unfold valD; simp [List.find?_cons, e], valV_neg e']
      exact ih
theorem kv_any {vs : List (Ky × V)} {kvs : List (Ky × D)} (h : KvR K B vs kvs) (k : Ky) : (vs.any fun kv => decide (kv.1 = k)) = kvs.any fun kv => decide (kv.1 = k) := by
  induction h with
  | nil => rfl
  | @cons p q ps qs hp t ih => rw [List.any_cons, List.any_cons, ih, hp.1]
theorem kv_map {vs : List (Ky × V)} {kvs : List (Ky × D)} (h : KvR K B vs kvs) (k : Ky) {v : V} {d : D} (hd : Dq K B v d) : KvR K B (vs.map fun kv => if kv.1 = k then (kv.1, v) else kv) (kvs.map fun kv => if kv.1 = k then (kv.1, d) else kv) := by
  induction h with
  | nil => exact .nil
  | @cons p q ps qs hp t ih =>
    rw [List.map_cons, List.map_cons]
    refine .cons ?_ ih
    by_cases e : q.1 = k
    · rw [if_pos e, if_pos (hp.1.trans e)]; exact ⟨hp.1, hd⟩
    · rw [if_neg e, if_neg (fun z => e (hp.1.symm.trans z))]; exact hp
theorem kv_snoc {vs : List (Ky × V)} {kvs : List (Ky × D)} (h : KvR K B vs kvs) (k : Ky) {v : V} {d : D} (hd : Dq K B v d) : KvR K B (vs ++ [(k, v)]) (kvs ++ [(k, d)]) := by
  induction h with
  | nil => exact .cons ⟨rfl, hd⟩ .nil
  | cons hp t ih => exact .cons hp ih
theorem kv_put {vs : List (Ky × V)} {kvs : List (Ky × D)} (h : KvR K B vs kvs) (k : Ky) {v : V} {d : D} (hd : Dq K B v d) : KvR K B (putK vs k v) (putD kvs k d) := by
  unfold putK putD
  rw [kv_any h k]
  split
  · exact kv_map h k hd
  · exact kv_snoc h k hd
theorem key_kV {a : Rs} {v : V} {k : Ky} (h : RsR K B H a v) (e : a.data.bind kyOf = some k) : v = kV k := by
  obtain ⟨d, e1, e2⟩ := Option.bind_eq_some_iff.mp e
  cases d with
  | int i => cases e2; exact rs_int h e1
  | str x => cases e2; exact rs_str h e1
  | _ => cases e2
end
section
variable {X : Cx} {W : WX}
theorem dictAt_of {r : Ro} {i : Nat} {kvs : List (Ky × D)} (h : dictAt r i = some kvs) : ∃ b, r[i]? = some (Sl.own b (.dK kvs)) := by
  unfold dictAt at h
  split at h
  · rename_i b k q; cases h; exact ⟨b, q⟩
  · cases h
theorem keyAt_of {K : PySem.W.Frag} {B H : Hp} {σ : L2.St} {r : Ro} {O : Addr → Prop} (c : Con K B H σ r O) {a : AV} {k : Ky} {v : V} (h : keyAt r a = some k) (x : AvR K B σ a v) : v = kV k := by
  unfold keyAt at h
  obtain ⟨d, e1, e2⟩ := Option.bind_eq_some_iff.mp h
  obtain ⟨rs, e3, e4⟩ := Option.bind_eq_some_iff.mp e1
  exact key_kV (c.look2_ e3 x) (by rw [e4]; exact e2)
theorem de_newK {pos : Pos} : DE X W (.Dict [] [] pos) mNewK := pe_weak pe_dnewK fun σ H Q ⟨B, r, O, c, o, r', e, p⟩ => by
  cases e
  intro q hq
  obtain ⟨B', s, c', rv⟩ := c.alc (show Alc X.K B H (upd H q (.dK [])) (.new (.dK [])) (.ref q) from ⟨q, [], hq, rfl, .nil, rfl⟩)
  exact p B' _ O _ s c' .refl rv
theorem in_read {neg : Bool} {i : Nat} {mk : M AV} {σ : L2.St} {H : Hp} {Q : VK} (h : tG (Cx.g X) W (mIn neg i mk) (rV (Cx.g X)) σ H Q) :
    tG (Cx.g X) W mk (rA (Cx.g X)) σ H fun y H1 => tVar i σ H1 fun x H2 => ∃ a o, x = .ref a ∧ DGet H2 a y o ∧ Q (.bl (if neg then !o.isSome else o.isSome)) H2 := by
  obtain ⟨B, r, O, h⟩ := h
  refine tG.of ((h.bind later_rV (R := rA (Cx.g X))).mono ?_)
  rintro y H2 ⟨a, B2, r2, O2, s2, x2, c, o2, r3, e2, p2⟩
  unfold fIn at e2
  split at e2
  · rename_i kvs k qd qk
    cases e2
    obtain ⟨b, q3⟩ := dictAt_of qd
    obtain ⟨l, F', g1, ⟨rfl, vs, g2, g3⟩, g4⟩ := c.own i b _ q3
    have := keyAt_of c qk x2
    subst this
    have kv := kv_val g3 k
    refine ⟨.ref l, g1, l, valV vs k, rfl, DGet.k g2, ?_⟩
    have e : (valV vs k).isSome = (valD kvs k).isSome := by
      cases q : valD kvs k with
      | none => rw [q] at kv; rw [kv]; rfl
      | some v => rw [q] at kv; obtain ⟨w, w1, _⟩ := kv; rw [w1]; rfl
    rw [e]
    exact p2 B2 H2 O2 _ .refl c .refl (.bl _)
  · cases e2
theorem db_nin {d e : Expr} {pos : Pos} {i : Nat} {mk : M AV} (hu : X.A.units + 1 < cLine) (he : DO X W e mk) (ho : PE X d (tVar i)) (hb : behindInMarks .NotIn d = false := by rfl) : DB X W (.Compare e [.NotIn] [d] pos) (mTst (mIn true i mk)) :=
  pt_weak (pt_cmp (pc_dnotin hu he ho) hb) fun σ H Q ⟨B, r, O, h⟩ => by
    refine in_read (W := W) (neg := true) (Q := fun x H' => ∃ c, x = .bl c ∧ Q c H') (tG.of ((h.bind later_rB (R := rV (Cx.g X))).mono ?_))
    rintro y H1 ⟨v, B1, r1, O1, s1, x1, h1⟩
    exact h1.ofBool x1
/-- d[k] = e -/
theorem ds_put {d ke e : Expr} {tpos pos : Pos} {i : Nat} {me : M RV} {mk : M AV} (hu : X.A.units + 1 < cLine) (ho : PE X d (tVar i)) (hk : DO X W ke mk) (he : DE X W e me) (hs : swapsWith e (some (.Subscript d ke tpos)) pos.line X.env = pure false := by rfl) :
    DS X W (.Assign [.Subscript d ke tpos] e pos) (sPut i me mk) := ps_weak (ps_dput hu ho hk he hs) fun D σ H ⟨B, r, O, h⟩ => by
  refine tG.of (h.exF.mono ?_)
  rintro y H1 ⟨v, B1, r1, O1, s1, b1, x1, c1, o, r', e1, p⟩
  split at e1
  · rename_i hd
    obtain ⟨kvs0, q0⟩ := Option.isSome_iff_exists.mp hd
    obtain ⟨b0, q1⟩ := dictAt_of q0
    obtain ⟨l, F, h1, _⟩ := c1.own i b0 _ q1
    refine ⟨.ref l, h1, ?_⟩
    have h2 : AtS (Cx.g X) W (sEx mk (fun a => fun r => match r[i]?, keyAt r a with
      | some (.own b (.dK kvs)), some k => if kvs.length < lineD then some (.nx, r.set i (.own b (.dK (putD kvs k v)))) else none
      | _, _ => none)) B1 r1 O1 σ H1 D := AtS.after s1 c1 b1 e1 p
    refine tG.of ((h2.ex (R := rA (Cx.g X))).mono ?_)
    rintro z H2 ⟨a, B2, r2, O2, s2, b2, x2, c2, o2, r3, e2, p2⟩
    split at e2
    · rename_i b kvs k qd qk
      split at e2
      · rename_i hl
        cases e2
        obtain ⟨l', F', g1, og, g4⟩ := c2.own i b _ qd
        obtain ⟨rfl, vs, g2, g3⟩ := id og
        rw [h1] at g1; cases g1
        have := keyAt_of c2 qk x2
        subst this
        have kp := kv_put g3 k (dp_same s2.sB x1)
        obtain ⟨c3, s3⟩ := c2.change (ct' := .dK (putD kvs k v)) (F' := [l]) (H' := upd H2 l (.dK (putK vs k y))) qd h1 og (fun a ha => upd_ne (by simpa using ha)) ⟨rfl, _, upd_same, kp⟩ (fun a ha => ha)
          (fun a ha => by
            by_cases e : a = l
            · subst e; rw [upd_same]; simp
            · rw [upd_ne e]; exact ha) (fun rows e => by cases e)
        exact ⟨l, _, rfl, DPut.k g2 (by rw [g3.length, ← line_eq]; exact hl), p2 B2 _ O2 σ (s2.trans s3) c3 (b2.trans (bor_same qd fun z => z))⟩
      · cases e2
    · cases e2
  · cases e1
end
end DL
end

section
namespace DL
open PySem
end DL
end

section
namespace DL
open PySem PySem.Spec PyProof.Rows L2
section
variable {prog : Program} {w : World} {A : Around} {E : Value → Shared → Prop} {s : Shared}
end
section
variable {X : Cx} {W : WX}
end
end DL
end

section
namespace DL
open PySem
/-- data of small depth that can be laid -/
def okE (d : D) : Bool := d.canLay0 && decide (d.depth ≤ 40)
def srtD (ds : List D) : List D := ds.mergeSort (W.dataLe false id)
def mmOk (ds : List D) : Bool := ds.all okE && (ds.all fun d => ds.all fun e => W.alike d e) && ds.all fun d => match d with | .none => false | _ => true
def gInt : List Rs → Option RV
  | [.fz (.int i)] => some (.val (.int i))
  | [.fz (.bool b)] => some (.val (.int (if b then 1 else 0)))
  | _ => none
end DL
end

section
namespace DL
open PySem PySem.Spec PySem.Calls PyProof.Rows L2
open PySem.W (EachIs AllAlike Sortable alike dataLt dataLe SortsAt dataKind)
section
variable {prog : Program} {w : World} {A : Around} {E : Value → Shared → Prop} {s : Shared}
end
end DL
end

section
namespace DL
open PySem PySem.Spec PySem.Calls PyProof.Rows L2
open PySem.W (EachIs AllAlike Sortable alike dataLt dataLe SortsAt dataKind)
section
variable {prog : Program} {w : World} {A : Around} {E : Value → Shared → Prop} {s : Shared}
end
theorem okE_lay {d : D} (h : okE d = true) : d.canLay0 = true := (Bool.and_eq_true_iff.mp h).1
theorem okE_dep {d : D} (h : okE d = true) : d.depth ≤ 40 := of_decide_eq_true (Bool.and_eq_true_iff.mp h).2
section
variable {X : Cx} {W : WX}
end
end DL
end

section
namespace DL
open PySem PySem.Spec PySem.Calls PyProof.Rows L2
open PySem.W (EachIs alike dataLt)
section
variable {X : Cx} {W : WX}
theorem lay_all {ds : List D} (h : ∀ d ∈ ds, okE d = true) : PyData.canLayAll0 ds = true ∧ PyData.depthAll ds ≤ 40 := by
  induction ds with
  | nil => exact ⟨by simp [PyData.canLayAll0], by simp [PyData.depthAll]⟩
  | cons d ds ih =>
    obtain ⟨h1, h2⟩ := ih fun e he => h e (by simp [he])
    have h3 := h d (by simp)
    have h4 := okE_dep h3
    exact ⟨by simp only [PyData.canLayAll0, okE_lay h3, h1, Bool.and_self], by simp only [PyData.depthAll]; omega⟩
theorem dqa_reads {pins : List (Addr × Obj)} {σ : L2.St} {H : Hp} {s : Shared} {ms : List V} {its : List Value} {ds : List D} (I : Inv X pins σ H s) (d : DqAll X.K H ms ds) (r : Vals ms its) (h : ∀ d ∈ ds, okE d = true) : ∃ as, ReadsAll s.heap its ds as :=
  Dp.readsAll I ds ms its (dqa_dpa d (lay_all h).1) r
/-- a row looked at -/
theorem row_at {pins : List (Addr × Obj)} {σ : L2.St} {B H : Hp} {s : Shared} (I : Inv X pins σ H s) (sb : Same B H) {a : Rs} {w : V} {ds : List D} (p1 : RsR X.K B H a w) (e : a.data.bind rowOf = some ds) :
    ∃ l ms its, w = V.ref l ∧ (s.heap.IsList l its.toArray ∨ s.heap.IsTuple l its.toArray) ∧ Vals ms its ∧ DqAll X.K B ms ds ∧ ms.length ≤ sizeLine := by
  obtain ⟨d, e1, e2⟩ := Option.bind_eq_some_iff.mp e
  rcases row_of e2 with rfl | rfl
  · obtain ⟨l, ms, ev, g1, g2⟩ := rs_list sb p1 e1
    obtain ⟨its, rv, hl, hz⟩ := I.list (SqL.of (K := X.K) g1)
    exact ⟨l, ms, its, ev, .inl hl.isList, rv, g2, hz⟩
  · obtain ⟨l, ms, ev, g1, g2⟩ := rs_tuple sb p1 e1
    obtain ⟨its, rv, hl, hz⟩ := I.tuple (g1.sq (K := X.K))
    refine ⟨l, ms, its, ev, .inr ?_, rv, g2, hz⟩
    obtain ⟨o, ho, hc, n, hd⟩ := hl
    exact ⟨o, ho, hc, n, hd⟩
theorem all_ok {ds : List D} (h : ds.all okE = true) : ∀ d ∈ ds, okE d = true := fun d hd => List.all_eq_true.mp h d hd
theorem dqa_same {K : PySem.W.Frag} {B H : Hp} (sb : Same B H) {ms : List V} {ds : List D} (d : DqAll K B ms ds) : DqAll K H ms ds := dpa_same sb d
theorem mm_of {ds : List D} (h : mmOk ds = true) : (∀ d ∈ ds, okE d = true) ∧ PySem.W.AlikeAll ds := by
  simp only [mmOk, Bool.and_eq_true] at h
  obtain ⟨⟨o1, o2⟩, o3⟩ := h
  refine ⟨all_ok o1, fun d hd e he => List.all_eq_true.mp (List.all_eq_true.mp o2 d hd) e he, fun d hd => ?_⟩
  have := List.all_eq_true.mp o3 d hd
  rintro rfl
  cases this
/-- the item that was told -/
theorem mm_item {pins : List (Addr × Obj)} {σ : L2.St} {B H : Hp} {s : Shared} (I : Inv X pins σ H s) (sb : Same B H) {ms : List V} {its : List Value} {ds : List D} {d : D} (rv : Vals ms its) (dq : DqAll X.K B ms ds) (hok : ∀ d ∈ ds, okE d = true) (hal : ∀ e ∈ ds, alike e d = true)
    {i : Nat} {v : Value} {h' : Heap} {bs : List Addr} (hv : its.toArray[i]? = some v) (r : Reads h' v d bs) (hk : ∀ b o, s.heap.get? b = some o → h'.get? b = some o) : ∃ y, RelV y v ∧ Dq X.K B y d := by
  have hv : its[i]? = some v := by simpa using hv
  have hi : i < its.length := (List.getElem?_eq_some_iff.mp hv).1
  have hm : i < ms.length := by rw [rv.length]; exact hi
  obtain ⟨u, hu, ru⟩ := rv.get (i := i) (x := ms[i]) (List.getElem?_eq_getElem hm)
  rw [hv] at hu; cases hu
  have hd : i < ds.length := by rw [← dq.length]; exact hm
  obtain ⟨w, hw, dw⟩ := dq.get (i := i) (d := ds[i]) (List.getElem?_eq_getElem hd)
  rw [List.getElem?_eq_getElem hm] at hw; cases hw
  have hmem : ds[i] ∈ ds := List.getElem_mem hd
  obtain ⟨as, r2⟩ := Dp.reads I ds[i] ms[i] v (dq_dp (dp_same sb dw) (okE_lay (hok _ hmem))) ru
  have r3 := PySem.W.reads_keeps hk r2
  have := PySem.W.alike_unique _ _ _ _ _ (hal _ hmem) r3 r
  rw [← this]
  exact ⟨ms[i], ru, dw⟩
theorem minD_mem : ∀ (xs : List D) (x : D), PySem.W.minD x xs ∈ x :: xs := by
  intro xs
  unfold PySem.W.minD
  induction xs with
  | nil => intro x; simp
  | cons y ys ih =>
    intro x
    rw [List.foldl_cons]
    have := ih (if dataLt y x then y else x)
    split at this <;> rename_i hc <;> simp only [hc, if_true, if_false, List.mem_cons] at this ⊢ <;> grind
theorem cd_int : CallD X (.type "int") gInt := by
  intro pins s σ H vs us Q I r ⟨B, as, z, sb, p, hg, q⟩
  unfold gInt at hg
  split at hg
  · cases hg
    cases p with
    | cons p1 p =>
      cases p
      cases dp_int p1
      exact call_int1 pins s σ H _ us Q I r (.inl ⟨_, rfl, alc_val q (.int _)⟩)
  · cases hg
    cases p with
    | cons p1 p =>
      cases p
      cases dp_bl p1
      exact call_int1 pins s σ H _ us Q I r (.inr ⟨_, rfl, alc_val q (.int _)⟩)
  · cases hg
end
end DL
end

section
namespace DL
open PySem
/-- range's numbers, as a row that is told -/
def rowN (ds : List D) : Option (List D) := if ds.length ≤ lineD then some ds else none
def gLRng1 (as : List Rs) : Option RV := ((gRng1 as).bind rowN).map fun ds => .new (.lst ds)
end DL
end

section
namespace DL
open PySem
/-- an operand as data that stands still for a while -/
def Ct.view : Ct → Option D
  | .lst ds => some (.list ds)
  | .ll rows => some (.list (rows.map .list))
  | _ => none
def Rs.view : Rs → Option Rs
  | .fz d => some (.fz d)
  | .ow c => c.view.map .fz
end DL
end

section
namespace DL
open PySem
end DL
end

section
namespace DL
open PySem PySem.Spec PySem.Calls PyProof.Rows L2
open PySem.Sem (wp)
section
variable {prog : Program} {w : World} {A : Around} {E : Value → Shared → Prop} {s : Shared}
end
section
variable {prog : Program} {w : World} {A : Around} {E : Value → Shared → Prop} {s : Shared}
end
section
variable {X : Cx} {W : WX}
end
end DL
end

section
namespace DL
open PySem PySem.Spec PySem.Calls PyProof.Rows L2
section
variable {X : Cx} {W : WX}
theorem dqa_rg {K : PySem.W.Frag} {B : Hp} {i j : Int} : DqAll K B (rgV i j) (rng i j) := by
  unfold rgV rng
  induction (List.range (j - i).toNat) with
  | nil => exact .nil
  | cons n l ih => exact .cons (.int _) ih
theorem rg1_of {as : List Rs} {ds : List D} {B H : Hp} {vs : List V} (h : (gRng1 as).bind rowN = some ds) (p : Paired (RsR X.K B H) as vs) : ∃ j, vs = [.int j] ∧ ds = rng 0 j ∧ RgOk 0 j := by
  obtain ⟨es, e1, e2⟩ := Option.bind_eq_some_iff.mp h
  unfold gRng1 at e1
  split at e1
  · rename_i j
    split at e1
    · rename_i hj
      cases e1
      unfold rowN at e2
      split at e2
      · rename_i hl
        cases e2
        cases p with
        | cons p1 p =>
          cases p
          cases dp_int p1
          obtain ⟨h1, h2⟩ := okR_of hj
          refine ⟨j, rfl, rfl, by decide, by decide, h1, h2, ?_⟩
          have : (rng 0 j).length = (j - 0).toNat := by simp [rng]
          rw [this] at hl
          unfold lineD at hl
          omega
      · cases e2
    · cases e1
  · cases e1
/-- range's ends by meanings: the row that they tell -/
theorem prg1_d {a : Expr} {ma : M AV} {p pos : Pos} {g : List Rs → Option RV} {f : List D → RV} (hgl : ∀ as, g as = ((gRng1 as).bind rowN).map f) (hg : Gl X "range") (hm : X.mg "range" = none) (ha : DO X W a ma) (hs2 : starEach [a] X.env = (false, eval a X.env) :: starEach [] X.env := by rfl) {σ : L2.St} {H : Hp} {Q : VK} :
    tG (Cx.g X) W (mOp g [ma]) (rV (Cx.g X)) σ H Q → tRg1 (tG (Cx.g X) W ma (rA (Cx.g X))) σ H fun a b H1 => RgOk a b ∧ ∃ B, ∀ H' v, Alc X.K B H1 H' (f (rng a b)) v → Q v H' := fun ⟨B, r, O, h⟩ => by
  rw [mOp_one] at h
  refine tG.of ((h.bind later_rV (R := rA (Cx.g X))).mono ?_)
  rintro x H1 ⟨a, B1, r1, O1, s1, x1, h1⟩
  obtain ⟨xs, z, sb, p, hz, q⟩ := h1.fin (.cons x1 .nil)
  rw [hgl] at hz
  obtain ⟨ds, e1, e2⟩ := Option.map_eq_some_iff.mp hz
  obtain ⟨j, e3, rfl, ok⟩ := rg1_of e1 p
  cases e3
  exact ⟨j, rfl, ok, B1, by rw [e2]; exact q⟩
theorem tG_mono {m : M AV} {σ : L2.St} {H : Hp} {Q Q' : VK} (w : ∀ v H', Q v H' → Q' v H') (h : tG (Cx.g X) W m (rA (Cx.g X)) σ H Q) : tG (Cx.g X) W m (rA (Cx.g X)) σ H Q' := by
  obtain ⟨B, r, O, h⟩ := h
  exact tG.of (h.mono w)
theorem de_lrng1 {a : Expr} {ma : M AV} {p p2 pos pos2 : Pos} (hc : X.calm = true) (hgl : Gl X "list") (hml : X.mg "list" = none) (hg : Gl X "range") (hm : X.mg "range" = none) (ha : DO X W a ma) (hs2 : starEach [a] X.env = (false, eval a X.env) :: starEach [] X.env := by rfl)
    (na : starEach [.Call (.Name "range" p2) [a] [] pos2] X.env = (false, eval (.Call (.Name "range" p2) [a] [] pos2) X.env) :: starEach [] X.env := by rfl) : DE X W (.Call (.Name "list" p) [.Call (.Name "range" p2) [a] [] pos2] [] pos) (mOp gLRng1 [ma]) :=
  pe_weak (pe_listRg hc hgl hml (prg_1 hg hm ha hs2) na) fun σ H Q h => by
    have h := prg1_d (p := p) (pos := pos) (f := fun ds => .new (.lst ds)) (fun _ => rfl) hg hm ha hs2 h
    exact tG_mono (fun v H1 ⟨n, e, ok, B, q⟩ => ⟨n, e, ok, fun q' hq => alc_lst q dqa_rg q' hq⟩) h
end
end DL
end

section
namespace DL
open PySem PySem.Spec PySem.Calls PyProof.Rows L2
section
variable {X : Cx} {W : WX}
end
end DL
end

section
namespace DL
open PySem
end DL
end

section
namespace DL
open PySem PySem.Spec PyProof.Rows L2
section
variable {X : Cx} {W : WX}
end
end DL
end

section
namespace DL
open PySem
def dlAt (r : Ro) (i : Nat) : Option (Bool × List (Ky × List D)) := match r[i]? with
  | some (.own b (.dl kvs)) => some (b, kvs)
  | some (.own b (.dK [])) => some (b, [])
  | _ => none
def putL (kvs : List (Ky × List D)) (k : Ky) (d : D) : List (Ky × List D) :=
  if kvs.any (fun kv => decide (kv.1 = k)) then kvs.map (fun kv => if kv.1 = k then (kv.1, kv.2 ++ [d]) else kv) else kvs ++ [(k, [d])]
def frzAt (r : Ro) (j : Nat) : Option D := match r[j]? with
  | some (.frz _ d) => some d
  | _ => none
/-- d.setdefault(k, []).append(x) -/
def fSdA (i j : Nat) (a : AV) : M RV := fun r => match dlAt r i, keyAt r a, frzAt r j with
  | some (b, kvs), some k, some d => if kvs.length < lineD ∧ (kvs.all fun kv => decide (kv.2.length < lineD)) = true ∧ (kvs.map (·.1)).Nodup then some (.ok (.val .none), r.set i (.own b (.dl (putL kvs k d)))) else none
  | _, _, _ => none
def mSdA (i j : Nat) (mk : M AV) : M RV := fun r => if (dlAt r i).isSome then (mk.bind (fSdA i j)) r else none
/-- the whole keys -/
def intK : List (Ky × List D) → Option (List Int)
  | [] => some []
  | (.inl n, _) :: t => (intK t).map (n :: ·)
  | _ :: _ => none
def lookL (kvs : List (Ky × List D)) (n : Int) : List D := ((kvs.find? fun kv => decide (kv.1 = .inl n)).map (·.2)).getD []
/-- return [d[k] for k in sorted(d)]: the lists go over to a new list -/
def sRetDl (i : Nat) (vs : List Nat) : S := fun r => match dlAt r i with
  | some (false, kvs) => match intK kvs with
    | some ns => if ns.length < 64 ∧ ns.Nodup ∧ noAl r i = true ∧ i ∉ vs ∧ anyPin r vs = false ∧ (vs.all fun v => decide (v < r.length)) = true then some (.rets i, (wipeR r vs).set i (.own false (.ll ((ns.mergeSort fun a b => decide (a ≤ b)).map (lookL kvs))))) else none
    | none => none
  | _ => none
def dins (n : Int) : List Int → List Int
  | [] => [n]
  | m :: t => if n < m then n :: m :: t else if n = m then m :: t else m :: dins n t
/-- the numbers, each once, rising -/
def dsort (ns : List Int) : List Int := ns.foldr dins []
def gSortSet : List Rs → Option RV
  | [a] => match a.data with
    | some (.list xs) => match intsD xs with
      | some ns => if ns.length < 64 then some (.new (.lst ((dsort ns).map .int))) else none
      | none => none
    | _ => none
  | _ => none
/-- what is new stands still from now on, a list of lists, too -/
def viewV : RV → Option RV
  | .val d => some (.val d)
  | .new c => c.view.map .val
def mFzL (m : M RV) : M RV := m.bind fun v => M.of (viewV v)
def sStuck : S := fun _ => none
end DL
end

section
namespace DL
open PySem PySem.Spec PyProof.Rows L2
section
variable {K : PySem.W.Frag} {B H H' : Hp} {σ σ' : L2.St} {r : Ro} {O : Addr → Prop}
/-- an owned object gives way to another, that may hold new addresses -/
theorem Con.change2 (c : Con K B H σ r O) {i : Nat} {b : Bool} {ct ct' : Ct} {l l' : Addr} {F F' : List Addr} (e : r[i]? = some (Sl.own b ct)) (hs : σ[i]? = some (some (V.ref l))) (o : OwnR K B H ct l F)
    (hl : σ'.length = σ.length) (hso : ∀ j : Nat, j ≠ i → σ'[j]? = σ[j]?) (hs' : σ'[i]? = some (some (V.ref l')))
    (k : ∀ a, a ∉ F → H a ≠ none → H' a = H a) (o' : OwnR K B H' ct' l' F') (hF : ∀ a ∈ F', a ∈ F ∨ H a = none) (live : ∀ a, H a ≠ none → H' a ≠ none)
    (hal : ∀ rows, ct' = .ll rows → noAl r i = true) : Con K B H' σ' (r.set i (.own b ct')) (fun a => O a ∨ a ∈ F') ∧ Step B H O B H' (fun a => O a ∨ a ∈ F') := by
  obtain ⟨l0, F0, g1, g2, g3⟩ := c.own i b ct e
  rw [hs] at g1; cases g1
  have hFO : ∀ a ∈ F, O a := fun a ha => by
    rw [ownR_uniq g2 o fun _ _ => rfl] at ha
    exact g3 a ha
  have c1 := (c.release e hs o).toCon0
  have c2 := c1.mono (H' := H') (Same.refl _) (fun a x h => by
    rw [k a (fun q => by rw [c.off a (hFO a q)] at h; cases h) (by rw [c.sub a x h]; simp)]
    exact c.sub a x h) (fun a h => k a h.2 (c.liv a h.1)) c1.off
  have bF : ∀ a ∈ F', B a = none := fun a ha => (hF a ha).elim (fun h => c.off a (hFO a h)) fun h => c.sub.free h
  have lF : ∀ a ∈ F', H' a ≠ none := ownR_some o'
  have c2' := c2.grow0 (F := F) fun a ha => ⟨c.off a (hFO a ha), live a (c.liv a (hFO a ha))⟩
  have c3 := c2'.grow0 (F := F') fun a ha => ⟨bF a ha, lF a ha⟩
  have c4 := c3.replace (i := i) (x := .own b ct') hl hso ⟨l', F', hs', o', fun a ha => .inr ha, fun j b2 c2' l2 F2 n e2 s2 o2 a ha hb => by
    rcases get_set e2 with ⟨_, z⟩ | ⟨n, e2⟩
    · cases z
    · obtain ⟨m, G, q1, q2, q3⟩ := c.own j b2 c2' e2
      rw [s2] at q1; cases q1
      have hz : F2 = G := ownR_uniq q2 o2 fun a ha => k a (fun hz => c.sep i j b ct b2 c2' l l2 F G (Ne.symm n) e e2 hs s2 o q2 a hz ha) (ownR_some q2 a ha)
      subst hz
      rcases hF a ha with h | h
      · exact c.sep i j b ct b2 c2' l l2 F F2 (Ne.symm n) e e2 hs s2 o q2 a h hb
      · exact ownR_some q2 a hb h⟩
  rw [List.set_set] at c4
  refine ⟨⟨c4.shrink0 (fun a h => ?_) fun j b2 c2' l2 F2 e2 s2 o2 a ha => ?_, fun i2 j k2 h b2 rows l2 as h1 h2 h3 => ?_⟩, ⟨Same.refl _, fun a x h n => ?_, live, fun _ _ _ h => h, fun a h => ?_⟩⟩
  · rcases h with h | h
    · by_cases q : a ∈ F
      · exact .inl (.inr q)
      · exact .inl (.inl ⟨h, q⟩)
    · exact .inr h
  · obtain ⟨m, G, q1, q2, q3⟩ := c4.own j b2 c2' e2
    rw [s2] at q1; cases q1
    rw [ownR_uniq o2 q2 fun _ _ => rfl] at q3
    rcases q3 a ha with (h | h) | h
    · exact .inl h.1
    · exact .inl (hFO a h)
    · exact .inr h
  · rcases get_set h with ⟨rfl, z⟩ | ⟨n, g⟩
    · cases z
    · rcases get_set h1 with ⟨rfl, z⟩ | ⟨n1, g1⟩
      · cases z
        exact absurd g (noAl_of (hal rows rfl))
      · rw [hso j n1] at h2
        rw [hso i2 n]
        obtain ⟨m, G, q1, q2, q3⟩ := c.own j b2 _ g1
        rw [h2] at q1; cases q1
        rw [k _ (fun hz => c.sep i j b ct b2 _ l _ F G (Ne.symm n1) e g1 hs h2 o q2 _ hz (ownR_mem q2)) (ownR_some q2 _ (ownR_mem q2))] at h3
        exact c.al i2 j k2 g b2 rows l2 as g1 h2 h3
  · rw [k a (fun z => n (hFO a z)) (by rw [h]; simp)]
    exact h
  · rcases h with h | h
    · exact .inl h
    · exact (hF a h).imp (hFO a) id
theorem dlV_any : ∀ {kvs : List (Ky × List D)} {as : List Addr} {k : Ky}, as.length = kvs.length → ((dlV kvs as).any fun kv => decide (kv.1 = k)) = kvs.any fun kv => decide (kv.1 = k)
  | [], _, _, _ => rfl
  | _ :: _, [], _, h => by simp at h
  | kv :: kvs, a :: as, k, h => by
    show ((decide (kv.1 = k)) || (dlV kvs as).any _) = _
    rw [dlV_any (by simpa using h), List.any_cons]
theorem dlV_snoc {k : Ky} {ds : List D} {p : Addr} : ∀ {kvs : List (Ky × List D)} {as : List Addr}, as.length = kvs.length → dlV (kvs ++ [(k, ds)]) (as ++ [p]) = dlV kvs as ++ [(k, V.ref p)]
  | [], [], _ => rfl
  | [], _ :: _, h => by simp at h
  | _ :: _, [], h => by simp at h
  | kv :: kvs, a :: as, h => by
    show (kv.1, V.ref a) :: dlV (kvs ++ [(k, ds)]) (as ++ [p]) = _
    rw [dlV_snoc (by simpa using h)]
    rfl
theorem dlV_there : ∀ {kvs : List (Ky × List D)} {as : List Addr} {k : Ky}, as.length = kvs.length → (kvs.any fun kv => decide (kv.1 = k)) = true → ∃ (n : Nat) (ds : List D) (a : Addr), kvs[n]? = some (k, ds) ∧ as[n]? = some a ∧ valV (dlV kvs as) k = some (V.ref a) ∧ kvs.find? (fun kv => decide (kv.1 = k)) = some (k, ds)
  | [], _, _, _, h => by simp at h
  | _ :: _, [], _, h, _ => by simp at h
  | kv :: kvs, a :: as, k, hl, h => by
    by_cases e : kv.1 = k
    · exact ⟨0, kv.2, a, by rw [← e]; rfl, rfl, valV_pos e, by rw [List.find?_cons, decide_eq_true e, ← e]⟩
    · rw [List.any_cons, decide_eq_false e, Bool.false_or] at h
      obtain ⟨n, ds, b, h1, h2, h3, h4⟩ := dlV_there (as := as) (by simpa using hl) h
      exact ⟨n + 1, ds, b, h1, h2, (valV_neg e).trans h3, by rw [List.find?_cons, decide_eq_false e]; exact h4⟩
theorem putL_there : ∀ {kvs : List (Ky × List D)} {n : Nat} {k : Ky} {ds : List D} {d : D}, (kvs.map (·.1)).Nodup → kvs[n]? = some (k, ds) → (kvs.map fun kv => if kv.1 = k then (kv.1, kv.2 ++ [d]) else kv) = kvs.set n (k, ds ++ [d])
  | [], _, _, _, _, _, h => by simp at h
  | kv :: kvs, 0, k, ds, d, nd, h => by
    simp at h
    subst h
    rw [List.map_cons, if_pos rfl, List.set_cons_zero]
    congr 1
    rw [List.map_cons, List.nodup_cons] at nd
    have : ∀ x ∈ kvs, (if x.1 = k then (x.1, x.2 ++ [d]) else x) = x := fun x hx => if_neg fun e => nd.1 (List.mem_map.mpr ⟨x, hx, e⟩)
    exact (List.map_congr_left this).trans (List.map_id' kvs)
  | kv :: kvs, n + 1, k, ds, d, nd, h => by
    rw [List.map_cons, List.nodup_cons] at nd
    have h' : kvs[n]? = some (k, ds) := by simpa using h
    have ne : kv.1 ≠ k := fun e => nd.1 (List.mem_map.mpr ⟨_, List.mem_of_getElem? h', e.symm⟩)
    rw [List.map_cons, if_neg ne, List.set_cons_succ, putL_there nd.2 h']
theorem dlV_set : ∀ {kvs : List (Ky × List D)} {as : List Addr} {n : Nat} {k : Ky} {ds ds' : List D}, kvs[n]? = some (k, ds) → dlV (kvs.set n (k, ds')) as = dlV kvs as
  | [], _, _, _, _, _, h => by simp at h
  | _ :: _, [], 0, _, _, _, _ => rfl
  | _ :: _, [], _ + 1, _, _, _, _ => rfl
  | kv :: kvs, a :: as, 0, k, ds, ds', h => by simp at h; subst h; rfl
  | kv :: kvs, a :: as, n + 1, k, ds, ds', h => by
    show (kv.1, V.ref a) :: dlV (kvs.set n (k, ds')) as = (kv.1, V.ref a) :: dlV kvs as
    rw [dlV_set (by simpa using h)]
theorem Con.dlat (c : Con K B H σ r O) {i : Nat} {b : Bool} {kvs : List (Ky × List D)} (h : dlAt r i = some (b, kvs)) : ∃ l as ct, r[i]? = some (Sl.own b ct) ∧ σ[i]? = some (some (V.ref l)) ∧ OwnR K B H ct l (l :: as) ∧ H l = some (.dK (dlV kvs as)) ∧ (l :: as).Nodup ∧ RowsAt K B H as (kvs.map (·.2)) ∧ ∀ a ∈ l :: as, O a := by
  unfold dlAt at h
  split at h
  · rename_i b' kvs' q
    cases h
    obtain ⟨l, F, h1, h2, h3⟩ := c.own i _ _ q
    obtain ⟨as, rfl, h4, nd, ra⟩ := id h2
    exact ⟨l, as, _, q, h1, h2, h4, nd, ra, h3⟩
  · rename_i b' q
    cases h
    obtain ⟨l, F, h1, h2, h3⟩ := c.own i _ _ q
    obtain ⟨rfl, vs, h4, kv⟩ := id h2
    cases kv
    exact ⟨l, [], _, q, h1, h2, h4, by simp, .nil, h3⟩
  · cases h
end
section
variable {X : Cx} {W : WX}
theorem de_sda {d e x : Expr} {dpos dcpos apos cpos lpos : Pos} {i j : Nat} {mk : M AV} (hd : PE X d (tVar i)) (he : DO X W e mk) (hx : PE X x (tVar j))
    (m : M2 X d "setdefault" dpos e (.List [] lpos) dcpos)
    (hbase : attributeBase (.Call (.Attribute d "setdefault" dpos) [e, .List [] lpos] [] dcpos) "append" X.env (eval (.Call (.Attribute d "setdefault" dpos) [e, .List [] lpos] [] dcpos) X.env) = eval (.Call (.Attribute d "setdefault" dpos) [e, .List [] lpos] [] dcpos) X.env := by rfl)
    (hfew : ((backTo cpos (starEach [x] X.env)).all (fun x => !x.1) && (backToKw cpos (keywordEach [] X.env)).all (fun x => x.1.isSome)
      && decide (([x] : List Expr).length + ([] : List Keyword).length + (if ([] : List Keyword).isEmpty then 0 else 1) < 30)) = true := by rfl)
    (hline : (apos.endLine == cpos.line) = true := by rfl) (hs : starEach [x] X.env = (false, eval x X.env) :: starEach [] X.env := by rfl) :
    DE X W (.Call (.Attribute (.Call (.Attribute d "setdefault" dpos) [e, .List [] lpos] [] dcpos) "append" apos) [x] [] cpos) (mSdA i j mk) :=
  pe_weak (pe_bm PySem.F.plainAttrs_list PySem.F.slot_list_append PySem.F.type_list_append mt_append (pe_dsetd hd he (pe_lst pa_nil) m) (pa_cons hx pa_nil hs) hbase hfew hline hs rfl) fun σ H Q ⟨B, r, O, c0, o, r', e, p⟩ => by
  unfold mSdA at e
  split at e
  · rename_i hd0
    obtain ⟨⟨b0, kvs0⟩, q0⟩ := Option.isSome_iff_exists.mp hd0
    obtain ⟨l, as0, ct0, _, h1, _, h2, _⟩ := c0.dlat q0
    refine ⟨.ref l, h1, l, rfl, .inl ⟨_, .of h2⟩, tG.of ((At.bind (R := rA (Cx.g X)) ⟨c0, o, r', e, p⟩ later_rV).mono ?_)⟩
    rintro y H2 ⟨a, B2, r2, O2, s2, x2, c, o2, r3, e2, p2⟩
    unfold fSdA at e2
    split at e2
    · rename_i b kvs k dd qd qk qf
      split at e2
      · rename_i hz
        obtain ⟨z1, z2, z3⟩ := hz
        cases e2
        obtain ⟨l', as, ct, g1, g2, g3, g4, nd, ra, gO⟩ := c.dlat qd
        rw [h1] at g2; cases g2
        have := keyAt_of c qk x2
        subst this
        have hal : as.length = kvs.length := by simpa using rowsAt_len ra
        obtain ⟨bj, qj⟩ : ∃ bj, r2[j]? = some (Sl.frz bj dd) := by
          unfold frzAt at qf
          split at qf
          · rename_i bj d' q; cases qf; exact ⟨bj, q⟩
          · cases qf
        obtain ⟨v, hv1, hv2⟩ := c.frz j bj dd qj
        refine ⟨Nat.zero_le _, fun q hq => ⟨dlV kvs as, k, ?_, rfl, ?_, fun w hw => ?_, fun hw => ?_⟩⟩
        · rw [upd_ne (ne_of_none g4 hq)]; exact g4
        · unfold dlV
          rw [List.length_zipWith, hal, Nat.min_self, ← line_eq]
          exact z1
        · have hany : (kvs.any fun kv => decide (kv.1 = k)) = true := by
            rw [← dlV_any hal, valV_any, hw]
            rfl
          obtain ⟨n, ds, a, f1, f2, f3, f4⟩ := dlV_there hal hany
          rw [f3] at hw; cases hw
          obtain ⟨a', g5, vs, g6, g7⟩ := paired_at ra (show (kvs.map (·.2))[n]? = some ds by rw [List.getElem?_map, f1]; rfl)
          rw [f2] at g5; cases g5
          have haF : a ∈ as := List.mem_of_getElem? f2
          have naq : a ≠ q := fun z => by rw [z, hq] at g6; cases g6
          have nal : l ≠ a := fun z => (List.nodup_cons.mp nd).1 (z ▸ haF)
          have g6' : upd H2 q (.lst []) a = some (.lst vs) := by rw [upd_ne naq]; exact g6
          obtain ⟨bq, nq, c1, s1⟩ := c.lay (o := .lst []) hq
          have keepF : ∀ b ∈ l :: as, upd H2 q (HO.lst []) b = H2 b := fun b hb => upd_ne fun z => ownR_some g3 b hb (z ▸ hq)
          have o3 := ownR_same (H' := upd H2 q (.lst [])) g3 (Same.refl _) keepF
          have hp : putL kvs k dd = kvs.set n (k, ds ++ [dd]) := by
            unfold putL
            rw [if_pos hany]
            exact putL_there z3 f1
          have hlen : vs.length < sizeLine := by
            have := List.all_eq_true.mp z2 _ (List.mem_of_getElem? f1)
            simp only [decide_eq_true_eq] at this
            rw [g7.length, ← line_eq]
            exact this
          refine ⟨.inl ⟨rfl, vs, .of g6'⟩, v, hv1, a, vs, v, rfl, rfl, g6', hlen, ?_⟩
          obtain ⟨c2, s2'⟩ := c1.change (ct' := .dl (putL kvs k dd)) (F' := l :: as) (H' := upd (upd H2 q (.lst [])) a (.lst (vs ++ [v]))) g1 h1 o3 (fun b hb => upd_ne fun z => hb (by rw [z]; simp [haF])) ⟨as, rfl, by
              rw [hp, dlV_set f1, upd_ne nal, keepF l (by simp)]
              exact g4, nd, by
              rw [hp, List.map_set]
              exact rows_set (rowsAt_same (Same.refl _) ra fun b hb => keepF b (by simp [hb])) f2 (List.nodup_cons.mp nd).2 (g7.append (.cons hv2 .nil))⟩ (fun _ h => h) (fun b hb => by
              by_cases z : b = a
              · subst z; rw [upd_same]; simp
              · rw [upd_ne z]; exact hb) (fun rows e => by cases e)
          exact p2 B2 _ O2 .non (s1.trans s2') c2 (bor_same g1 fun z => z) .non
        · have hany : (kvs.any fun kv => decide (kv.1 = k)) = false := by
            rw [← dlV_any hal, valV_any, hw]
            rfl
          have nql : q ≠ l := fun z => by rw [← z, hq] at g4; cases g4
          have hp : putL kvs k dd = kvs ++ [(k, [dd])] := by
            unfold putL
            rw [if_neg (by rw [hany]; simp)]
          have hpk : putK (dlV kvs as) k (V.ref q) = dlV (putL kvs k dd) (as ++ [q]) := by
            unfold putK
            rw [if_neg (by rw [dlV_any hal, hany]; simp), hp, dlV_snoc hal]
          have hq3 : upd (upd H2 q (HO.lst [])) l (HO.dK (putK (dlV kvs as) k (V.ref q))) q = some (.lst []) := by rw [upd_ne nql, upd_same]
          refine ⟨.inl ⟨rfl, [], .of hq3⟩, v, hv1, q, [], v, rfl, rfl, hq3, by rw [← line_eq]; unfold lineD; simp, ?_⟩
          have nF : ∀ b ∈ l :: as, b ≠ q := fun b hb z => ownR_some g3 b hb (z ▸ hq)
          obtain ⟨c2, s2'⟩ := c.change2 (σ' := σ) (ct' := .dl (putL kvs k dd)) (l' := l) (F' := l :: (as ++ [q])) (H' := upd (upd (upd H2 q (.lst [])) l (.dK (putK (dlV kvs as) k (.ref q)))) q (.lst ([] ++ [v]))) g1 h1 g3 rfl (fun _ _ => rfl) h1
            (fun b hb hn => by
              have nb : b ≠ q := fun z => hn (z ▸ hq)
              rw [upd_ne nb, upd_ne (fun z => hb (by rw [z]; simp)), upd_ne nb]) ⟨as ++ [q], rfl, by
              rw [upd_ne (Ne.symm nql), upd_same, hpk], by
              have e : l :: (as ++ [q]) = (l :: as) ++ [q] := rfl
              rw [e, List.nodup_append]
              exact ⟨nd, by simp, fun b hb b' hb' => by simp at hb'; subst hb'; exact nF b hb⟩, by
              rw [hp, List.map_append]
              refine rowsAt_snoc (rowsAt_same (Same.refl _) ra fun b hb => ?_) ⟨[v], upd_same, .cons hv2 .nil⟩
              have nb := nF b (by simp [hb])
              rw [upd_ne nb, upd_ne (show b ≠ l from fun z => (List.nodup_cons.mp nd).1 (z ▸ hb)), upd_ne nb]⟩
            (fun b hb => by
              have hb : b ∈ (l :: as) ++ [q] := hb
              rcases List.mem_append.mp hb with hb | hb
              · exact .inl hb
              · simp at hb; subst hb; exact .inr hq)
            (fun b hb => by
              have nb : b ≠ q := fun z => hb (z ▸ hq)
              rw [upd_ne nb]
              by_cases z : b = l
              · subst z; rw [upd_same]; simp
              · rw [upd_ne z, upd_ne nb]; exact hb) (fun rows e => by cases e)
          exact p2 B2 _ _ .non s2' c2 (bor_same g1 fun z => z) .non
      · cases e2
    · cases e2
  · cases e
end
end DL
end

section
namespace DL
open PySem PySem.Spec PyProof.Rows L2
theorem intK_keys : ∀ {kvs : List (Ky × List D)} {ns : List Int}, intK kvs = some ns → kvs.map (·.1) = ns.map Sum.inl
  | [], _, h => by cases h; rfl
  | (.inr _, _) :: _, _, h => by cases h
  | (.inl n, ds) :: t, ns, h => by
    simp only [intK] at h
    cases q : intK t with
    | none => rw [q] at h; cases h
    | some ms =>
      rw [q] at h
      cases h
      rw [List.map_cons, List.map_cons, intK_keys q]
theorem dlV_keys : ∀ {kvs : List (Ky × List D)} {as : List Addr}, as.length = kvs.length → (dlV kvs as).map (·.1) = kvs.map (·.1)
  | [], _, _ => rfl
  | _ :: _, [], h => by simp at h
  | kv :: kvs, a :: as, h => by
    show kv.1 :: (dlV kvs as).map (·.1) = _
    rw [dlV_keys (by simpa using h)]
    rfl
theorem noAl_wipe {r : Ro} {i : Nat} (h : noAl r i = true) : ∀ vs : List Nat, noAl (wipeR r vs) i = true
  | [] => h
  | v :: vs => by
    show noAl ((wipeR r vs).set v .non) i = true
    have ih := noAl_wipe h vs
    unfold noAl at ih ⊢
    rw [List.all_eq_true] at ih ⊢
    intro x hx
    rcases List.mem_or_eq_of_mem_set hx with hx | rfl
    · exact ih x hx
    · rfl
section
variable {X : Cx} {W : WX}
theorem ds_retDl {d d' e tg : Expr} {scope : Scope} {own : List (Str × Nat)} {i j : Nat} {p spos cpos lpos pos : Pos} (hc : X.calm = true) (hN : X.N.Nodup) (hu : X.A.units + 1 < cLine) (hg : Gl X "sorted") (hm : X.mg "sorted" = none)
    (hd : PE X d' (tVar i)) (ok : BlkOk X.N X.env.scope scope own)
    (hgt : ∀ (s : Shared) (H : Hp) (C : Addr) (cl : List (Str × Addr)) (fp : List Addr), PG (X.blk s H scope (compEnvC scope cl C X.env) fp) tg (gName j))
    (hpd : ∀ (s : Shared) (H : Hp) (C : Addr) (cl : List (Str × Addr)) (fp : List Addr), PE (X.blk s H scope (compEnvC scope cl C X.env) fp) d (tVar i))
    (hpe : ∀ (s : Shared) (H : Hp) (C : Addr) (cl : List (Str × Addr)) (fp : List Addr), PE (X.blk s H scope (compEnvC scope cl C X.env) fp) e (tVar j)) (hsl : NoSl e) (hj : j ∈ own.map (·.2))
    (he : starEach [d'] X.env = (false, eval d' X.env) :: starEach [] X.env := by rfl)
    (hs : ∀ x, foldedSetIterable (.Call (.Name "sorted" p) [d'] [] cpos) X.env x = pure x := by intro _; rfl) :
    DS X W (.Return (some (.ListComp (.Subscript d e spos) [⟨tg, .Call (.Name "sorted" p) [d'] [] cpos, [], 0⟩] scope lpos)) pos) (sRetDl i (own.map (·.2))) :=
  ps_weak (ps_ret (pe_lc hc hN (pi_list (pe_callB (call_sortedDI hc) hg hm (by rfl) (pa_cons hd pa_nil he) (he := he))) ok hgt (fun _ _ _ _ _ => pts_nil) (fun s H C cl fp => pe_dget (X := X.blk s H scope (compEnvC scope cl C X.env) fp) hu (hpd s H C cl fp) (hpe s H C cl fp) hsl) hs)) fun D σ H ⟨B, r, O, c, o, r', e, pp⟩ => by
  generalize hvs : own.map (·.2) = vs at *
  unfold sRetDl at e
  split at e
  · rename_i kvs qd
    split at e
    · rename_i ns qn
      split at e
      · rename_i hz
        obtain ⟨z1, z2, z3, z4, z5, z6⟩ := hz
        cases e
        obtain ⟨l, as, ct, g1, g2, g3, g4, nd, ra, gO⟩ := c.dlat qd
        have hal : as.length = kvs.length := by simpa using rowsAt_len ra
        have hkeys := (dlV_keys hal).trans (intK_keys qn)
        refine ⟨.ref l, g2, l, dlV kvs as, ns, rfl, .of g4, hkeys, z1, fun ys P hperm hpw hP => ⟨P, rfl, ⟨_, .of upd_same⟩, fun Dd hDd => ?_⟩⟩
        have eys : (ns.mergeSort fun a b => decide (a ≤ b)) = ys := by
          refine List.Perm.eq_of_pairwise (le := fun a b => decide (a ≤ b) = true) (fun a b _ _ h1 h2 => by simp only [decide_eq_true_eq] at *; omega) ?_ (hpw.imp fun h => by simpa using h) ((List.mergeSort_perm ..).trans hperm.symm)
          exact List.pairwise_mergeSort (fun a b c h1 h2 => by simp only [decide_eq_true_eq] at *; omega) (fun a b => by
            have := Int.le_total a b
            simpa using this) ns
        rw [eys] at pp
        have hex : ∀ n ∈ ys, ∃ a : Addr, ∃ m : Nat, kvs[m]? = some (.inl n, lookL kvs n) ∧ as[m]? = some a ∧ valV (dlV kvs as) (.inl n) = some (V.ref a) := fun n hn => by
          have hk : (Sum.inl n : Ky) ∈ kvs.map (·.1) := by rw [intK_keys qn]; exact List.mem_map.mpr ⟨n, hperm.mem_iff.mp hn, rfl⟩
          obtain ⟨kv, k1, k2⟩ := List.mem_map.mp hk
          obtain ⟨m, ds, a, f1, f2, f3, f4⟩ := dlV_there (k := .inl n) hal (List.any_eq_true.mpr ⟨kv, k1, by simpa using k2⟩)
          refine ⟨a, m, ?_, f2, f3⟩
          unfold lookL
          rw [f4]
          exact f1
        let f : Int → Addr := fun n => if h : n ∈ ys then Classical.choose (hex n h) else 0
        have hf : ∀ n ∈ ys, ∃ m : Nat, kvs[m]? = some (.inl n, lookL kvs n) ∧ as[m]? = some (f n) ∧ valV (dlV kvs as) (.inl n) = some (V.ref (f n)) := fun n hn => by
          have := Classical.choose_spec (hex n hn)
          show ∃ m : Nat, kvs[m]? = some (.inl n, lookL kvs n) ∧ as[m]? = some (if h : n ∈ ys then Classical.choose (hex n h) else 0) ∧ valV (dlV kvs as) (.inl n) = some (V.ref (if h : n ∈ ys then Classical.choose (hex n h) else 0))
          rw [dif_pos hn]
          exact this
        have hfas : ∀ n ∈ ys, f n ∈ as := fun n hn => by
          obtain ⟨m, _, h2, _⟩ := hf n hn
          exact List.mem_of_getElem? h2
        have hPl : l ≠ P := fun z => by rw [← z, g4] at hP; cases hP
        have hDP : P ≠ Dd := fun z => by rw [← z, upd_same] at hDd; cases hDd
        have hDl : l ≠ Dd := fun z => by rw [← z, upd_ne hPl, g4] at hDd; cases hDd
        have hDH : H Dd = none := by rw [upd_ne (Ne.symm hDP)] at hDd; exact hDd
        refine ⟨fun q m H' => m = ys.length - q ∧ q ≤ ys.length ∧ H' = upd (upd H P (.lst (ys.map V.int))) Dd (.lst ((ys.take q).map fun n => V.ref (f n))), ⟨ys.length, by simp, Nat.zero_le _, rfl⟩, ?_⟩
        rintro q m H' ⟨rfl, hq, rfl⟩
        have hsP : ∀ o, upd (upd H P (HO.lst (ys.map V.int))) Dd o P = some (.lst (ys.map V.int)) := fun o => by rw [upd_ne hDP, upd_same]
        by_cases hlt : q < ys.length
        · refine .inr ⟨⟨_, .int ys[q], .of (hsP _), by rw [List.getElem?_map, List.getElem?_eq_getElem hlt]; rfl⟩, fun H2 => H2 = upd (upd H P (.lst (ys.map V.int))) Dd (.lst ((ys.take (q + 1)).map fun n => V.ref (f n))), fun H2 h2 => ⟨ys.length - (q + 1), by omega, rfl, hlt, h2⟩, ?_⟩
          rintro x H3 ⟨rfl, hx⟩
          have hx := hx _ (.of (hsP _))
          rw [List.getElem?_map, List.getElem?_eq_getElem hlt] at hx
          cases hx
          have hjv : j ∈ vs := hj
          have hjl : j < σ.length := by
            rw [← c.len]
            have := List.all_eq_true.mp z6 j hjv
            simpa using this
          have hij : i ≠ j := fun z => z4 (z ▸ hjv)
          refine ⟨?_, ?_⟩
          · apply List.ext_getElem?
            intro t
            by_cases ht : t ∈ vs
            · by_cases hl : t < σ.length
              · have g : ∀ τ : L2.St, τ.length = σ.length → (wipe τ vs)[t]? = some none := fun τ hτ => by
                  cases qq : (wipe τ vs)[t]? with
                  | none => rw [List.getElem?_eq_none_iff, wipe_length] at qq; omega
                  | some w => cases w with
                    | none => rfl
                    | some w => exact absurd qq (wipe_in ht)
                rw [g σ rfl, g _ (by rw [List.length_set, wipe_length])]
              · rw [List.getElem?_eq_none (by rw [wipe_length, List.length_set, wipe_length]; omega), List.getElem?_eq_none (by rw [wipe_length]; omega)]
            · rw [wipe_out ht, List.getElem?_set_ne (show j ≠ t from fun z => ht (z ▸ hjv))]
          · simp only [tYes, ↓reduceIte]
            refine ⟨.ref l, by rw [List.getElem?_set_ne (Ne.symm hij), wipe_out z4]; exact g2, .int ys[q], List.getElem?_set_self (by rw [wipe_length]; exact hjl), l, V.ref (f ys[q]), rfl, ?_, ?_⟩
            · obtain ⟨m, _, _, h3⟩ := hf ys[q] (List.getElem_mem hlt)
              rw [← h3]
              exact DGet.k (k := .inl ys[q]) (by rw [upd_ne hDl, upd_ne hPl]; exact g4)
            · refine ⟨_, upd_same, ?_, ?_⟩
              · rw [List.length_map, List.length_take]
                have : ys.length < 64 := by rw [hperm.length_eq]; exact z1
                have : sizeLine = lineD := line_eq.symm
                have : lineD = 16777216 := rfl
                omega
              · show upd (upd _ Dd _) Dd _ = _
                rw [upd_upd, List.take_add_one, List.getElem?_eq_getElem hlt, List.map_append]
                rfl
        · have eq : q = ys.length := by omega
          subst eq
          rw [List.take_length]
          refine .inl ⟨⟨_, .of (hsP _), by rw [List.length_map]; exact Nat.le_refl _⟩, ?_⟩
          obtain ⟨bP, nP, c1, s1⟩ := c.lay (o := .lst (ys.map V.int)) hP
          have c1' := c1.wiped (vs := vs) (σ' := σ) rfl fun _ _ => rfl
          have nF : ∀ a ∈ l :: as, a ≠ P := fun a ha z => ownR_some g3 a ha (z ▸ hP)
          have o3 := ownR_same (H' := upd H P (.lst (ys.map V.int))) g3 (Same.refl _) fun a ha => upd_ne (nF a ha)
          have nd2 : ys.Nodup := hperm.nodup_iff.mpr z2
          have hfn : ∀ a ∈ ys.map f, a ≠ Dd := fun a ha z => by
            obtain ⟨n, hn, rfl⟩ := List.mem_map.mp ha
            exact ownR_some g3 (f n) (by simp [hfas n hn]) (z ▸ hDH)
          have hil : i < σ.length := by
            have := (List.getElem?_eq_some_iff.mp g2).1
            exact this
          have go : ∀ L : List Int, (∀ n ∈ L, n ∈ ys) → RowsAt X.K B (upd (upd H P (.lst (ys.map V.int))) Dd (.lst (ys.map fun n => V.ref (f n)))) (L.map f) (L.map (lookL kvs)) := by
            intro L
            induction L with
            | nil => intro _; exact .nil
            | cons n L ih =>
              intro hL
              have hn := hL n (by simp)
              obtain ⟨m, h1, h2, _⟩ := hf n hn
              obtain ⟨a', g5, ws, g6, g7⟩ := paired_at ra (show (kvs.map (·.2))[m]? = some (lookL kvs n) by rw [List.getElem?_map, h1]; rfl)
              rw [h2] at g5; cases g5
              refine .cons ⟨ws, ?_, g7⟩ (ih fun k hk => hL k (by simp [hk]))
              rw [upd_ne (hfn _ (List.mem_map.mpr ⟨n, hn, rfl⟩)), upd_ne (nF _ (by simp [hfas n hn]))]
              exact g6
          have hRows := go ys fun n h => h
          obtain ⟨c2, s2⟩ := c1'.change2 (i := i) (b := false) (ct := ct) (ct' := .ll (ys.map (lookL kvs))) (l := l) (l' := Dd) (F := l :: as) (F' := Dd :: ys.map f) (σ' := σ.set i (some (.ref Dd))) (H' := upd (upd H P (.lst (ys.map V.int))) Dd (.lst (ys.map fun n => V.ref (f n))))
            (by rw [wipeR_out z4]; exact g1) g2 o3 List.length_set (fun t ht => List.getElem?_set_ne (Ne.symm ht)) (List.getElem?_set_self hil)
            (fun a ha hn => upd_ne fun z => hn (z ▸ hDd))
            ⟨ys.map f, rfl, by rw [upd_same, List.map_map]; rfl, by
              rw [List.nodup_cons]
              refine ⟨fun h => hfn Dd h rfl, ?_⟩
              rw [List.nodup_iff_pairwise_ne, List.pairwise_map]
              refine List.Pairwise.imp_of_mem (fun {a b} ha hb hab he => ?_) (List.nodup_iff_pairwise_ne.mp nd2)
              obtain ⟨m1, h1, h2, _⟩ := hf a ha
              obtain ⟨m2, h3, h4, _⟩ := hf b hb
              rw [he] at h2
              have ndas := (List.nodup_cons.mp nd).2
              have hm : m1 = m2 := by
                obtain ⟨l1, e1⟩ := List.getElem?_eq_some_iff.mp h2
                obtain ⟨l2, e2⟩ := List.getElem?_eq_some_iff.mp h4
                rcases Nat.lt_trichotomy m1 m2 with h | h | h
                · exact absurd (e1.trans e2.symm) (List.pairwise_iff_getElem.mp ndas m1 m2 l1 l2 h)
                · exact h
                · exact absurd (e2.trans e1.symm) (List.pairwise_iff_getElem.mp ndas m2 m1 l2 l1 h)
              rw [hm, h3] at h1
              injection h1 with h1
              injection h1 with h1
              injection h1 with h1
              exact hab h1.symm, hRows⟩
            (fun a ha => by
              rcases List.mem_cons.mp ha with rfl | ha
              · exact .inr hDd
              · obtain ⟨n, hn, rfl⟩ := List.mem_map.mp ha
                exact .inl (by simp [hfas n hn]))
            (fun a ha => by
              by_cases z : a = Dd
              · subst z; exact absurd hDd ha
              · rw [upd_ne z]; exact ha) (fun rows e => noAl_wipe z3 vs)
          exact pp B _ _ (σ.set i (some (.ref Dd))) (.ref Dd) (s1.trans s2) c2 (fun t x ht px => by
              have hti : t ≠ i := fun z => by rw [z, g1] at ht; cases ht; cases px
              have htv : t ∉ vs := fun hm => by
                have : anyPin r vs = true := List.any_eq_true.mpr ⟨t, hm, by rw [ht]; cases x <;> exact px⟩
                rw [z5] at this; cases this
              exact ⟨⟨x, by rw [List.getElem?_set_ne (Ne.symm hti), wipeR_out htv]; exact ht, px⟩, List.getElem?_set_ne (Ne.symm hti)⟩) (List.getElem?_set_self hil)
      · cases e
    · cases e
  · cases e
end
end DL
end

section
namespace DL
open PySem PySem.Spec PyProof.Rows L2
section
variable {P : Program} {w : World} {A : Around} {E : Value → Shared → Prop} {s : Shared}
/-- a set without items, as set() makes it -/
abbrev so0 (w : World) : Obj := { cls := .type "set", dict := none, data := .set #[] 0 (.fresh 0 0 (!w.params.followText "set-order")) }
/-- the state with it -/
abbrev st0 (w : World) (s : Shared) : Shared := { s with heap := s.heap.push (so0 w) }
def Filled (w : World) (s : Shared) (ns : List Int) (s' : Shared) : Prop :=
  ∃ h' tk c, s' = { s with heap := h', toks := tk } ∧ SetR w h' s.heap.objs.size (fun j => decide (j ∈ ns)) c ∧ c ≤ ns.length ∧ ∀ b o, s.heap.get? b = some o → h'.get? b = some o
set_option maxHeartbeats 3200000 in
theorem fill_set {A : Around} {Qf : Fin → Shared → Prop} {l : Addr} {xs : Array Value} {ns : List Int} (hh : A.in1.handled = none) (hl : s.heap.IsList l xs) (hi : IntsAre xs.toList ns) (hb : ns.length + 1 < scanBound)
    (hR : ∀ s', Filled w s ns s' → Qf (.done (.ret .none)) s') :
    wpAny (model P w) A (Builtin.«set.__init__» ⟨[.ref s.heap.objs.size, .ref l], []⟩) Qf E (st0 w s) := by
  have lx : xs.size = ns.length := by
    rw [← Array.length_toList]
    exact IntsAre.length hi
  have hS : (st0 w s).heap.get? s.heap.objs.size = some (so0 w) := Heap.get?_push_size _ rfl
  have hl1 : (st0 w s).heap.IsList l xs := hl.push _
  have hl2 := hl1
  obtain ⟨ol, hol, hcl, nl, hdl⟩ := hl1
  obtain ⟨ocls, odict, odata, oslots⟩ := ol
  simp only at hcl hdl
  subst hcl
  subst hdl
  have t1 := F.sub_list_set
  have t2 := F.sub_list_frozenset
  have t3 : (Value.type "list" == Value.type "dict") = false := by decide
  have hT : Shared.TypeIs (st0 w s) (.ref s.heap.objs.size) "set" := ⟨_, hS, rfl⟩
  unfold Builtin.«set.__init__» noKeywords Builtin.Frozenset.updateFrom
  generalize hPI : pyIter = PI
  wp_walk
  subst hPI
  refine wpAny_pyIter_list (s := st0 w s) hl2 ?_
  refine wpAny_bind (wpAny_runValue ?_)
  have lS : l < s.heap.objs.size := by
    obtain ⟨o, ho, _⟩ := hl
    exact Heap.lt_size ho
  have z1 : (st0 w s).heap.objs.size = s.heap.objs.size + 1 := Heap.size_push ..
  have n1 : l ≠ (st0 w s).heap.objs.size := Nat.ne_of_lt (by rw [z1]; exact Nat.lt_succ_of_lt lS)
  have n2 : s.heap.objs.size ∉ [(st0 w s).heap.objs.size, l] := by
    simp only [List.mem_cons, List.not_mem_nil, or_false, not_or]
    exact ⟨Nat.ne_of_lt (by rw [z1]; exact Nat.lt_succ_self _), Nat.ne_of_gt lS⟩
  have each : ∀ (i : Nat) (v : Value), xs[i]? = some v → ∃ k t, ns[i]? = some k ∧ v = .int k t := fun i v hv => by
    have hi2 : i < ns.length := by
      rw [← lx]
      exact (Array.getElem?_eq_some_iff.mp hv).1
    obtain ⟨t, e⟩ := hi.int_at i v (by rw [Array.getElem?_toList]; exact hv)
    rw [List.getD_eq_getElem?_getD, List.getElem?_eq_getElem hi2] at e
    exact ⟨_, t, List.getElem?_eq_getElem hi2, e⟩
  refine set_update_ints (Walks.list hh _ l n1 xs).toS s.heap.objs.size n2 ns lx hb each (xs.size - 0) 0 _ rfl (Nat.zero_le _) ⟨⟨_, Heap.get?_push_size _ rfl, rfl, rfl⟩, hl2.push _⟩ ⟨0, Nat.le_refl 0, setR_new_at (Heap.get?_push_of_some _ hS)⟩ fun s' c hm hc hS' => ?_
  obtain ⟨h', g', d', tk', os'⟩ := s'
  have e1 : g' = s.gens := hm.gens
  have e2 : d' = s.drawn := hm.drawn
  have e3 : os' = s.os := hm.os
  subst e1 e2 e3
  refine wpAny_pure (wpAny_pure ?_)
  refine hR _ ⟨h', tk', c, rfl, hS', by omega, fun b o e => ?_⟩
  have b0 : b < s.heap.objs.size := Heap.lt_size e
  refine hm.heap b o ?_ (Heap.get?_push_of_some _ (Heap.get?_push_of_some _ e))
  simp only [List.mem_cons, List.not_mem_nil, or_false, not_or]
  exact ⟨Nat.ne_of_lt b0, Nat.ne_of_lt (by rw [z1]; exact Nat.lt_succ_of_lt b0)⟩
set_option maxHeartbeats 3200000 in
theorem set_lst {A : Around} {l : Addr} {xs : Array Value} {ns : List Int} {Q : Value → Shared → Prop} (hh : A.handled = none) (hl : s.heap.IsList l xs) (hi : IntsAre xs.toList ns) (hb : ns.length + 1 < scanBound)
    (hQ : ∀ s', Filled w s ns s' → Q (.ref s.heap.objs.size) s') : wpAny (model P w) A (call (.type "set") [.ref l]) Q E s := by
  obtain ⟨c, tl, m1⟩ := F.called_set.mro
  have m2 := F.called_set.made
  have m3 := F.called_set.sub
  have m4 := F.called_set.notType
  have m5 := F.called_set.canCreate
  have m6 := F.typeCall_set_1 (.ref l)
  refine wpAny_call (codeAny_of_tree (wpAny_pure ⟨Code.quiet_builtin _ (by decide +kernel), codeAny_builtin F.entry_type_call ?_⟩))
  rw [Around.under_plain (weight_type_call_type "set" [.ref l] []) rfl]
  repeat (any_goals (first | assumption | wp_step))
  refine codeAny_mono (code_set_led1 (E := E) (Q₁ := fun v t => v = .ref s.heap.objs.size ∧ t = st0 w s) (.ref l) ⟨rfl, rfl⟩) fun r t hr => ?_
  cases r with
  | error e => exact hr
  | ok f =>
    cases f with
    | ret v =>
      obtain ⟨rfl, rfl⟩ := hr
      have hS : (st0 w s).heap.get? s.heap.objs.size = some (so0 w) := Heap.get?_push_size _ rfl
      have hT : Shared.TypeIs (st0 w s) (.ref s.heap.objs.size) "set" := ⟨_, hS, rfl⟩
      have k1 := F.called_set.init.lookup
      have k2 := F.called_set.init.bind (.ref s.heap.objs.size)
      repeat (any_goals (first | assumption | wp_step))
      refine codeAny_call_builtin_at (Code.quiet_builtin _ (by decide +kernel)) F.entry_set_init (check_set_init_1 hT ?_)
      rw [Around.under_plainId F.called_set.init.plain _]
      refine fill_set ?h1 hl hi hb fun t ht => ?_
      case h1 => simp [hh]
      repeat (any_goals (first | assumption | wp_step))
      exact hQ _ ht
    | _ => exact hr.elim
end
end DL
end

section
namespace DL
open PySem PySem.Spec PyProof.Rows L2
theorem dins_mem {n k : Int} : ∀ {l : List Int}, k ∈ dins n l ↔ k = n ∨ k ∈ l
  | [] => by simp [dins]
  | m :: t => by
    unfold dins
    split
    · simp
    · split
      · rename_i h; subst h; simp
      · rw [List.mem_cons, dins_mem, List.mem_cons]
        constructor
        · rintro (h | h | h) <;> simp [h]
        · rintro (h | h | h) <;> simp [h]
theorem dins_pw {n : Int} : ∀ {l : List Int}, l.Pairwise (· < ·) → (dins n l).Pairwise (· < ·)
  | [], _ => by simp [dins]
  | m :: t, h => by
    obtain ⟨h1, h2⟩ := List.pairwise_cons.mp h
    unfold dins
    split
    · rename_i q
      refine List.pairwise_cons.mpr ⟨fun k hk => ?_, h⟩
      rcases List.mem_cons.mp hk with rfl | hk
      · exact q
      · have := h1 k hk
        omega
    · split
      · exact h
      · refine List.pairwise_cons.mpr ⟨fun k hk => ?_, dins_pw h2⟩
        rcases dins_mem.mp hk with rfl | hk
        · omega
        · exact h1 k hk
theorem dsort_mem {k : Int} : ∀ {l : List Int}, k ∈ dsort l ↔ k ∈ l
  | [] => by simp [dsort]
  | n :: t => by
    show k ∈ dins n (dsort t) ↔ _
    rw [dins_mem, dsort_mem, List.mem_cons]
theorem dsort_pw : ∀ l : List Int, (dsort l).Pairwise (· < ·)
  | [] => .nil
  | n :: t => dins_pw (dsort_pw t)
theorem dsort_uniq {ns ys : List Int} (h1 : ys.Pairwise (· < ·)) (h2 : ∀ k, k ∈ ys ↔ k ∈ ns) : ys = dsort ns := by
  have nd : ∀ l : List Int, l.Pairwise (· < ·) → l.Nodup := fun l h => by
    rw [List.nodup_iff_pairwise_ne]
    exact h.imp fun h => by omega
  refine List.Perm.eq_of_pairwise (le := (· < ·)) (fun a b _ _ h1 h2 => by omega) h1 (dsort_pw ns) ((List.perm_ext_iff_of_nodup (nd _ h1) (nd _ (dsort_pw ns))).mpr fun k => ?_)
  rw [h2, dsort_mem]
/-- set(xs), xs a list of whole numbers -/
def rSetLI (K : PySem.W.Frag) (w : World) : List V → Hp → VK → Prop := fun vs H Q => ∃ (p : Addr) (ns : List Int), vs = [.ref p] ∧ SqL K H p (ns.map V.int) ∧ ns.length ≤ 1000 ∧
  ∀ (a : Addr) (n : Nat), H a = none → n ≤ ns.length → Q (.ref a) (upd H a (SetO w a (fun j => decide (j ∈ ns)) n))
section
variable {X : Cx} {W : WX}
theorem cr_setLI (hc : X.calm = true) : CallR X (.type "set") (rSetLI X.K X.w) := by
  intro pins s σ H vs us Q I r h
  obtain ⟨p, ns, rfl, hq, hl, q⟩ := h
  rw [Vals.ref1 r]
  obtain ⟨its, rv, pl, hz⟩ := I.list hq
  refine set_lst (I.ok.hd hc) pl.isList (ints_of_vals rv) (by unfold scanBound; omega) fun s' hf => ?_
  obtain ⟨h', tk, c, rfl, hS, hc2, k⟩ := hf
  exact ⟨.ref _, upd H s.heap.objs.size (SetO X.w s.heap.objs.size (fun j => decide (j ∈ ns)) c), I.laid (t' := tk) k (Nat.le_refl _) (setO_new hS), rfl, q _ c (I.hok.fresh (Nat.le_refl _)) hc2⟩
theorem de_sortset {e : Expr} {p p2 cpos pos : Pos} {ma : M AV} (hc : X.calm = true) (hg : Gl X "sorted") (hm : X.mg "sorted" = none) (hg2 : Gl X "set") (hm2 : X.mg "set" = none) (ha : DO X W e ma)
    (he : starEach [e] X.env = (false, eval e X.env) :: starEach [] X.env := by rfl)
    (he2 : starEach [.Call (.Name "set" p2) [e] [] cpos] X.env = (false, eval (.Call (.Name "set" p2) [e] [] cpos) X.env) :: starEach [] X.env := by rfl) :
    DE X W (.Call (.Name "sorted" p) [.Call (.Name "set" p2) [e] [] cpos] [] pos) (mOp gSortSet [ma]) :=
  pe_weak (pe_callB (cr_sortedSet hc) hg hm (by rfl) (pa_cons (pe_callTy (cr_setLI hc) hg2 hm2 (by rfl) (da_cons ha da_nil he) (he := he)) pa_nil he2) (he := he2)) fun σ H Q ⟨B, r, O, h⟩ => by
  refine tG.of ((At.bind (R := rL (Cx.g X)) h later_rV).mono ?_)
  rintro vs H1 ⟨as, B1, r1, O1, s1, x1, c1, o, r', e1, p1⟩
  unfold mFin at e1
  split at e1
  · cases e1
  · rename_i xs q1
    have px := c1.looks2_ q1 x1
    cases q2 : gSortSet xs with
    | none => rw [q2] at e1; cases e1
    | some rv =>
      rw [q2] at e1
      cases e1
      unfold gSortSet at q2
      split at q2
      · split at q2
        · rename_i a ds q3
          split at q2
          · rename_i ns q4
            split at q2
            · rename_i hlen
              cases q2
              cases px with
              | cons p2 p3 =>
                cases p3
                obtain ⟨l, ms, rfl, g1, g2⟩ := rs_list c1.sub p2 q3
                have := ints_dq q4 g2
                subst this
                refine ⟨l, ns, rfl, .of g1, by omega, fun z n hz hn => ⟨z, _, n, rfl, upd_same, by omega, fun ys P hpw hmem _ hP => ?_⟩⟩
                have ey := dsort_uniq (ns := ns) hpw (fun k => (hmem k).trans (by simp))
                subst ey
                obtain ⟨b2, n2, c2, s2⟩ := c1.lay (o := SetO X.w z (fun j => decide (j ∈ ns)) n) hz
                obtain ⟨b3, n3, c3, s3⟩ := c2.lay (o := .lst ((dsort ns).map V.int)) hP
                have hP1 : H1 P = none := by
                  by_cases hh : H1 P = none
                  · exact hh
                  · exact absurd hP (s2.live P hh)
                exact p1 B1 _ O1 (.ref P) (s2.trans s3) c3 (fun i x hx px => ⟨⟨x, hx, px⟩, rfl⟩) ⟨P, [P], rfl, ⟨rfl, _, upd_same, dq_ints _⟩, fun a ha => by simp at ha; subst ha; exact ⟨hP1, b3, n3⟩⟩
            · cases q2
          · cases q2
        · cases q2
      · cases q2
end
end DL
end

section
namespace DL
open PySem PySem.Spec PyProof.Rows L2
section
variable {K : PySem.W.Frag} {B H B' H' : Hp} {σ : L2.St} {r : Ro} {O O' : Addr → Prop}
theorem Con.frozenL (c : Con K B' H' σ r O') {x y : RV} {v : V} (s : Step B H O B' H' O') (h : RvR K H B' H' O' x v) (e : viewV x = some y) : ∃ B2, Step B H O B2 H' O' ∧ Con K B2 H' σ r O' ∧ RvR K H B2 H' O' y v := by
  cases x with
  | val d' => cases e; exact ⟨B', s, c, h⟩
  | new ct =>
    cases ct with
    | lst ds =>
      cases e
      obtain ⟨B2, s2, c2, d2, _⟩ := c.frozen s h rfl
      exact ⟨B2, s2, c2, d2⟩
    | ll rows =>
      cases e
      obtain ⟨l, F, rfl, ⟨as, rfl, h4, nd, ra⟩, hF⟩ := h
      simp only [List.nodup_cons] at nd
      obtain ⟨B1, s1, k1, c2, d2⟩ := c.stillAll ra nd.2 fun a ha => ⟨(hF a (by simp [ha])).2.1, (hF a (by simp [ha])).2.2⟩
      obtain ⟨n1, n2, n3⟩ := hF l (by simp)
      have bl : B1 l = none := by rw [k1 l nd.1]; exact n2
      have c3 := c2.still h4 bl n3
      refine ⟨_, ⟨s.sB.trans (s1.trans (same_new bl)), s.keep, s.live, fun a q1 q2 q3 => ?_, s.nO⟩, c3, .lst upd_same (dpa_same (same_new bl) d2)⟩
      have hn : a ∉ l :: as := fun z => q1 (hF a z).1
      simp only [List.mem_cons, not_or] at hn
      rw [upd_ne hn.1, k1 a hn.2]
      exact s.nB a q1 q2 q3
    | dK _ => cases e
    | dT _ => cases e
    | dl _ => cases e
end
section
variable {X : Cx} {W : WX}
theorem de_fzl {e : Expr} {m : M RV} (h : DE X W e m) : DE X W e (mFzL m) := pe_weak h fun σ H Q ⟨B, r, O, c, o, r', e, p⟩ => by
  refine ⟨B, r, O, c, ?_⟩
  unfold mFzL M.bind at e
  cases q : m r with
  | none => rw [q] at e; cases e
  | some z =>
    obtain ⟨o1, r1⟩ := z
    rw [q] at e
    refine ⟨o1, r1, rfl, ?_⟩
    cases o1 with
    | exc x => cases e; exact p
    | ok rv =>
      simp only at e
      cases q2 : viewV rv with
      | none => rw [q2] at e; cases e
      | some y =>
        rw [q2] at e
        cases e
        intro B1 H1 O1 v s1 c1 b1 x1
        obtain ⟨B2, s2, c2, x2⟩ := c1.frozenL s1 x1 q2
        exact p B2 H1 O1 v s2 c2 b1 x2
end
end DL
end

section
namespace DL
open PySem PySem.Spec PyProof.Rows L2
section
variable {X : Cx} {W : WX}
theorem ds_stuck {st : Stmt} : DS X W st sStuck := ⟨fun pins s σ H D I ⟨B, r, O, c, o, r', e, p⟩ => by cases e⟩
end
end DL
end

section
namespace DL
open PySem PySem.Spec PySem.Calls PyProof.Rows L2
section
variable {K : PySem.W.Frag} {B H : Hp} {σ : L2.St} {r : Ro} {O : Addr → Prop}
theorem get_snoc {α : Type} {l : List α} {x y : α} {i : Nat} (h : (l ++ [x])[i]? = some y) : (i < l.length ∧ l[i]? = some y) ∨ (i = l.length ∧ y = x) := by
  by_cases hi : i < l.length
  · rw [List.getElem?_append_left hi] at h
    exact .inl ⟨hi, h⟩
  · rw [List.getElem?_append_right (by omega)] at h
    by_cases h2 : i = l.length
    · subst h2
      simp at h
      exact .inr ⟨rfl, h.symm⟩
    · rw [List.getElem?_eq_none (by simp; omega)] at h
      cases h
theorem Con.snoc (c : Con K B H σ r O) {ct : Ct} {l : Addr} {F : List Addr} (o : OwnR K B H ct l F) (hF : ∀ a ∈ F, B a = none ∧ ¬ O a) (hn : noAl r r.length = true) :
    Con K B H (σ ++ [some (V.ref l)]) (r ++ [.own false ct]) (fun a => O a ∨ a ∈ F) := by
  have sg : ∀ {i : Nat} {x : Option V}, i < r.length → σ[i]? = some x → (σ ++ [some (V.ref l)])[i]? = some x := fun h e => by
    rw [List.getElem?_append_left (by rw [← c.len]; exact h)]
    exact e
  have sl : (σ ++ [some (V.ref l)])[r.length]? = some (some (V.ref l)) := by
    rw [c.len, List.getElem?_append_right (Nat.le_refl _)]
    simp
  have inv : ∀ {i : Nat} {x : Option V}, i < r.length → (σ ++ [some (V.ref l)])[i]? = some x → σ[i]? = some x := fun h e => by
    rwa [List.getElem?_append_left (by rw [← c.len]; exact h)] at e
  refine ⟨⟨c.sub, fun a h => h.elim (c.off a) fun h => (hF a h).1, fun a h => h.elim (c.liv a) fun h => ownR_some o a h, by simp [c.len], fun i b d e => ?_, fun i b ct' e => ?_, fun i j b c1 b' c2 l1 l2 F1 F2 ne e1 e2 s1 s2 o1 o2 => ?_⟩, fun i j k e b rows l1 as e1 s1 h1 => ?_⟩
  · rcases get_snoc e with ⟨hi, e⟩ | ⟨_, e⟩
    · obtain ⟨v, h1, h2⟩ := c.frz i b d e
      exact ⟨v, sg hi h1, h2⟩
    · cases e
  · rcases get_snoc e with ⟨hi, e⟩ | ⟨rfl, e'⟩
    · obtain ⟨l1, F1, h1, h2, h3⟩ := c.own i b ct' e
      exact ⟨l1, F1, sg hi h1, h2, fun a ha => .inl (h3 a ha)⟩
    · cases e'
      exact ⟨l, F, sl, o, fun a ha => .inr ha⟩
  · rcases get_snoc e1 with ⟨hi, e1⟩ | ⟨rfl, e1'⟩
    · rcases get_snoc e2 with ⟨hj, e2⟩ | ⟨rfl, e2'⟩
      · exact c.sep i j b c1 b' c2 l1 l2 F1 F2 ne e1 e2 (inv hi s1) (inv hj s2) o1 o2
      · cases e2'
        rw [sl] at s2; cases s2
        rw [ownR_uniq o o2 fun _ _ => rfl]
        obtain ⟨l3, F3, g1, g2, g3⟩ := c.own i b c1 e1
        rw [inv hi s1] at g1; cases g1
        rw [ownR_uniq g2 o1 fun _ _ => rfl]
        exact fun a ha hb => (hF a hb).2 (g3 a ha)
    · cases e1'
      rw [sl] at s1; cases s1
      rw [ownR_uniq o o1 fun _ _ => rfl]
      rcases get_snoc e2 with ⟨hj, e2⟩ | ⟨rfl, _⟩
      · obtain ⟨l3, F3, g1, g2, g3⟩ := c.own j b' c2 e2
        rw [inv hj s2] at g1; cases g1
        rw [ownR_uniq g2 o2 fun _ _ => rfl]
        exact fun a ha hb => (hF a ha).2 (g3 a hb)
      · exact absurd rfl ne
  · rcases get_snoc e with ⟨hi, e⟩ | ⟨_, e⟩
    · rcases get_snoc e1 with ⟨hj, e1⟩ | ⟨rfl, _⟩
      · obtain ⟨a, h2, h3⟩ := c.al i j k e b rows l1 as e1 (inv hj s1) h1
        exact ⟨a, h2, sg hi h3⟩
      · exact absurd e (noAl_of hn)
    · cases e
end
section
variable {X : Cx} {W : WX}
end
end DL
end

section
namespace DL
open PySem
end DL
end

section
namespace DL
open PySem PySem.Spec PySem.Calls PyProof.Rows L2
section
variable {K : PySem.W.Frag} {B H : Hp} {σ : L2.St} {r : Ro} {O : Addr → Prop}
end
section
variable {X : Cx} {W : WX}
end
end DL
end

section
namespace DL
open PySem
end DL
end

section
namespace DL
open PySem PySem.Spec PySem.Calls PyProof.Rows L2
section
variable {X : Cx} {W : WX}
end
end DL
end

section
namespace DL
open PySem
end DL
end

section
namespace DL
open PySem PySem.Spec PySem.Calls PyProof.Rows L2
section
variable {K : PySem.W.Frag} {B B' H H' : Hp} {σ : L2.St} {r : Ro} {O : Addr → Prop}
end
section
variable {X : Cx} {W : WX}
end
end DL
end

section
namespace DL
open PySem
end DL
end

section
namespace DL
open PySem PySem.Spec PySem.Calls PyProof.Rows L2
end DL
end

section
namespace DL
open PySem
end DL
end

section
namespace DL
open PySem PySem.Spec PySem.Calls PyProof.Rows L2
end DL
end

section
namespace DL
open PySem
end DL
end

section
namespace DL
open PySem PySem.Spec PySem.Calls PyProof.Rows L2
section
variable {K : PySem.W.Frag} {B H : Hp} {σ : L2.St} {r : Ro} {O : Addr → Prop}
theorem Con.put (c : Con K B H σ r O) {j : Nat} {b : Bool} {ct : Ct} {l : Addr} {F : List Addr} (hs : σ[j]? = some (some (V.ref l))) (o : OwnR K B H ct l F) (hF : ∀ a ∈ F, B a = none)
    (sep : ∀ (i : Nat) b' c' l' F', i ≠ j → r[i]? = some (Sl.own b' c') → σ[i]? = some (some (V.ref l')) → OwnR K B H c' l' F' → ∀ a ∈ F, a ∉ F') (hn : noAl r j = true) :
    Con K B H σ (r.set j (.own b ct)) (fun a => O a ∨ a ∈ F) :=
  (c.grow fun a ha => ⟨hF a ha, ownR_some o a ha⟩).replace (i := j) (x := .own b ct) rfl (fun _ _ => rfl) ⟨l, F, hs, o, fun a ha => .inr ha, sep⟩ fun _ _ _ => hn
end
section
variable {X : Cx} {W : WX}
end
end DL
end

section
namespace DL
open PySem
end DL
end

section
namespace DL
open PySem PySem.Spec PySem.Calls PyProof.Rows L2
section
variable {X : Cx} {W : WX}
end
end DL
end

section
namespace DL
open PySem
def sRaise (cls : String) : S := fun r => some (.exc ⟨cls, none⟩, r)
end DL
end

section
namespace DL
open PySem PySem.Spec PySem.Calls PyProof.Rows L2
section
variable {X : Cx} {W : WX}
/-- what the written part says of an own class of exceptions -/
structure ExK (K : PySem.W.Frag) (mg : Str → Option Value) (x : String) (C : Addr) : Prop where
  gC : mg (Str.ofString x) = some (.ref C)
  q : PySem.W.excIn K C [.type "ValueError", .type "Exception", .type "BaseException", .type "object"] "ValueError.__new__" = true
  kC : PySem.W.keepIn K (.ref C) = true
  b : PySem.W.subIn K (.ref C) (.type "BaseException") = some true
  t : PySem.W.typeIn K (.ref C) = some (.type "type")
def DEx (X : Cx) (W : WX) (i : Nat) (a : Addr) (e : Expr) (m : M RV) : Prop := PE X e (fun σ H Q => σ[i]? = some (some (V.ref a)) ∧ tG (Cx.g X) W m (rV (Cx.g X)) σ H Q)
def DAx (X : Cx) (W : WX) (i : Nat) (a : Addr) (es : List Expr) (m : M (List AV)) : Prop := PA X es (fun σ H Q => σ[i]? = some (some (V.ref a)) ∧ tG (Cx.g X) W m (rL (Cx.g X)) σ H Q)
theorem dax_nil {i : Nat} {a : Addr} : DAx X W i a [] (oL []) := pa_weak da_nil fun σ H Q h => h.2
theorem dax_cons {i : Nat} {a : Addr} {e : Expr} {es : List Expr} {m : M RV} {ms : List (M AV)} (h : DEx X W i a e m) (t : DAx X W i a es (oL ms)) (hs : starEach (e :: es) X.env = (false, eval e X.env) :: starEach es X.env := by rfl) : DAx X W i a (e :: es) (oL (oE m :: ms)) := pa_weak (pa_cons h t hs) fun σ H Q ⟨hi, B, r, O, h⟩ => by
  have h1 : At (Cx.g X) W (oE m) (rA (Cx.g X)) B r O σ H fun x H1 => ∃ a1 B1 r1 O1, Step B H O B1 H1 O1 ∧ AvR X.K B1 σ a1 x ∧ At (Cx.g X) W ((oL ms).bind fun as => M.ret (a1 :: as)) (rL (Cx.g X)) B1 r1 O1 σ H1 Q := h.bind later_rL (R := rA (Cx.g X))
  refine ⟨hi, ?_⟩
  -- the operand
  obtain ⟨c, o, r', e1, p⟩ := h1
  refine ⟨B, r, O, c, ?_⟩
  unfold oE M.bind at e1
  cases q : m r with
  | none => rw [q] at e1; cases e1
  | some z =>
    obtain ⟨o1, r1⟩ := z
    rw [q] at e1
    refine ⟨o1, r1, rfl, ?_⟩
    cases o1 with
    | exc x => cases e1; exact p
    | ok rv =>
      simp only [M.of] at e1
      cases qd : rv.data with
      | none => rw [qd] at e1; cases e1
      | some d =>
        rw [qd] at e1
        cases e1
        intro B1 H1 O1 v s1 c1 b1 x1
        obtain ⟨B2, s2, c2, dp, _⟩ := c1.frozen s1 x1 qd
        obtain ⟨a1, B3, r3, O3, s3, x3, h2⟩ := p B2 H1 O1 v s2 c2 b1 dp
        refine ⟨hi, tG.of ((h2.bind later_rL (R := rL (Cx.g X))).mono ?_)⟩
        rintro xs H2 ⟨as, B4, r4, O4, s4, x4, h3⟩
        exact h3.ret (Paired.cons (x3.same s4.sB) x4)
theorem dex_lst {i : Nat} {a : Addr} {es : List Expr} {pos : Pos} {ms : List (M AV)} (h : DAx X W i a es (oL ms)) : DEx X W i a (.List es pos) (mOp gLst ms) := pe_weak (pe_lst h) fun σ H Q ⟨hi, B, r, O, h⟩ => by
  refine ⟨hi, tG.of (h.ops.mono ?_)⟩
  rintro vs H1 ⟨B1, xs, z, sb, p, hg, q⟩
  unfold gLst at hg
  obtain ⟨ds, e1, e2⟩ := Option.bind_eq_some_iff.mp hg
  split at e2
  · rename_i hl
    cases e2
    have d := dataAll_of e1 p
    exact ⟨by rw [d.length, ← line_eq]; exact hl, alc_lst q d⟩
  · cases e2
end
end DL
end

section
namespace DL
open PySem PySem.Spec PySem.Calls PyProof.Rows L2
section
variable {X : Cx} {W : WX}
/-- isinstance(e, C) -/
theorem dex_isi {a D : Addr} {oe : Obj} {pn : List (Addr × Obj)} {i : Nat} {n T : Str} {c : V} {cv : Value} {b : Bool} {p p1 p2 pos : Pos} (C : ExcC X.K D) (hz : L2N.Zn (.ref D) none oe) (hf : ∃ vs, oe.data = .fields vs)
    (hg : Gl (X.suite a ((a, oe) :: pn)) "isinstance") (hm : X.mg "isinstance" = none) (ho : PE (X.suite a ((a, oe) :: pn)) (.Name n p1) (tVar i)) (hT : PE (X.suite a ((a, oe) :: pn)) (.Name T p2) (tC c)) (hc : ClsV c cv) (hk : PySem.W.kitOne X.K (.ref D) cv = some b)
    (h1 : starEach [.Name n p1, .Name T p2] X.env = (false, eval (.Name n p1) X.env) :: starEach [.Name T p2] X.env := by rfl) (h2 : starEach [.Name T p2] X.env = (false, eval (.Name T p2) X.env) :: starEach [] X.env := by rfl)
    (hpl : (backTo pos (starEach [.Name T p2] X.env)).any (·.1) = false := by rfl) (hv : bootBuiltins "isinstance" = some (.builtin "isinstance") := by decide +kernel) :
    DEx (X.suite a ((a, oe) :: pn)) W i a (.Call (.Name "isinstance" p) [.Name n p1, .Name T p2] [] pos) (mC (.bool b)) :=
  pe_weak (pe_callB (X := X.suite a ((a, oe) :: pn)) (call_isE C hz.zc hf) hg hm hv (pa_cons ho (pa_cons hT pa_nil h2) h1) (by decide) (by decide) h1 hpl) fun σ H Q ⟨hi, B, r, O, h⟩ =>
    ⟨.ref a, hi, c, cv, b, rfl, fun u hu => (hc.eq hu), hk, h.ret (Dq.bl b)⟩
theorem kit_ref {K : PySem.W.Frag} {D T : Addr} {b : Bool} (hs : PySem.W.subIn K (.ref D) (.ref D) = some true) (hd : PySem.W.hasDictIn K T = true) (ht : PySem.W.typeIn K (.ref T) = some (.type "type")) (h : PySem.W.subIn K (.ref D) (.ref T) = some b) : PySem.W.kitOne K (.ref D) (.ref T) = some b := by
  unfold PySem.W.kitOne
  by_cases e : D = T
  · subst e
    rw [hs] at h
    cases h
    rw [if_pos (by simp)]
  · rw [if_neg (by simpa using e)]
    obtain ⟨cd, hc, _⟩ := PySem.W.any_some hd
    unfold PySem.W.kitCls
    simp only
    rw [hc, ht, if_pos (by rfl)]
    exact h
theorem kit_bty {K : PySem.W.Frag} {D : Addr} {T : String} {b : Bool} (hm : PySem.W.kitMeta T = true) (h : PySem.W.subIn K (.ref D) (.type T) = some b) : PySem.W.kitOne K (.ref D) (.type T) = some b := by
  unfold PySem.W.kitOne
  rw [if_neg (by simp)]
  unfold PySem.W.kitCls
  simp only
  rw [if_pos hm]
  exact h
theorem one_L {mg : Str → Option Value} {P : String → Addr → Prop} {x : String} {C : Addr} (gC : mg (Str.ofString x) = some (.ref C)) (h : P x C) : ∀ n ∈ [x], ∀ C', mg (Str.ofString n) = some (.ref C') → P n C' := fun n hn C' hC => by
  cases List.mem_singleton.mp hn
  rw [gC] at hC
  cases hC
  exact h
end
end DL
end

section
namespace DL
open PySem
end DL
end

section
namespace DL
open PySem PySem.Spec PySem.Calls PyProof.Rows L2
section
variable {X : Cx} {W : WX}
end
end DL
end

section
namespace DL
open PySem
end DL
end

section
namespace DL
open PySem PySem.Spec PySem.Calls PyProof.Rows L2
section
variable {X : Cx} {W : WX}
end
end DL
end

section
namespace DL
open PySem
end DL
end

section
namespace DL
open PySem PySem.Spec PySem.Calls PyProof.Rows L2 RT
section
variable {X : Cx} {W : WX}
end
end DL
end

section
namespace DL
open PySem
end DL
end

section
namespace DL
open PySem PySem.Spec PySem.Calls PyProof.Rows L2
section
variable {X : Cx}
end
end DL
end

section
namespace DL
open PySem
end DL
end

section
namespace DL
open PySem PySem.Spec PySem.Calls PyProof.Rows L2 RT
section
variable {X : Cx} {W : WX}
end
end DL
end

section
namespace DL
open PySem
/-- lists and tuples alone: they lie on the heap -/
def isRow : D → Bool
  | .list _ => true
  | .tuple _ => true
  | _ => false
def shOk (d : D) : Bool := isRow d && okE d && PyData.showable d && PyData.leavesShort 13 d && decide (PyData.weight d ≤ 2 ^ 20)
end DL
namespace DL
open PySem
end DL
end

section
namespace DL
open PySem PySem.Spec PyProof.Rows L2
section
variable {X : Cx} {W : WX}
end
end DL
end

section
namespace DL
open PySem PySem.Spec PySem.Calls PyProof.Rows L2
section
variable {X : Cx} {W : WX}
end
end DL
end

section
namespace DL
open PySem
end DL
end

section
namespace DL
open PySem PySem.Spec PyProof.Rows L2
section
variable {K : PySem.W.Frag} {B H : Hp}
end
section
variable {X : Cx} {W : WX} {pins : List (Addr × Obj)} {σ : L2.St} {H : Hp} {s : Shared}
end
end DL
end

section
namespace DL
open PySem
end DL
end

section
namespace DL
open PySem PySem.Spec PyProof.Rows L2
section
variable {X : Cx} {W : WX}
end
end DL
end

section
namespace DL
open PySem
def fDisp (a : AV) (d : D) : M RV := fun r => match keyAt r a with
  | some k => some (.ok (.new (.dK [(k, d)])), r)
  | none => none
def mDisp1 (mk : M AV) (mv : M RV) : M RV := mk.bind fun a => (mFz mv).bind fun d => fDisp a d
end DL
end

section
namespace DL
open PySem PySem.Spec PyProof.Rows L2
section
variable {X : Cx} {W : WX}
theorem de_disp1 {k v : Expr} {pos : Pos} {mk : M AV} {mv : M RV} (hk : DO X W k mk) (hv : DE X W v mv) : DE X W (.Dict [some k] [v] pos) (mDisp1 mk mv) :=
  pe_weak (pe_disp (pps_cons hk hv pps_nil) rfl rfl (by simp) (by simp)) fun σ H Q ⟨B, r, O, c, o, r', e, pc⟩ => by
    intro p hp
    obtain ⟨bp, np, c1, s1⟩ := c.lay (o := .dK []) hp
    have hp1 : upd H p (.dK []) p = some (.dK []) := upd_same
    show tG _ _ _ _ _ _ _
    unfold mDisp1 M.bind at e
    cases qk : mk r with
    | none => rw [qk] at e; cases e
    | some z =>
      obtain ⟨ok, r1⟩ := z
      rw [qk] at e
      refine ⟨B, r, O, c1, ok, r1, qk, ?_⟩
      cases ok with
      | exc x =>
        cases e
        exact fun B' H' O' cl dx s c b y => pc B' H' O' cl dx (s1.trans s) c b y
      | ok a =>
        intro B2 H2 O2 y s2 c2 b2 x2
        simp only at e
        show tG _ _ _ _ _ _ _
        cases q2 : mFz mv r1 with
        | none => rw [q2] at e; cases e
        | some z =>
          obtain ⟨o2, r2⟩ := z
          rw [q2] at e
          refine tG.of (At.froz ⟨c2, o2, r2, q2, ?_⟩)
          cases o2 with
          | exc x =>
            cases e
            exact fun B' H' O' cl dx s c b y => pc B' H' O' cl dx ((s1.trans s2).trans s) c (b2.trans b) y
          | ok d =>
            intro B3 H3 O3 w s3 c3 b3 dp
            simp only at e
            unfold fDisp at e
            split at e
            · rename_i kk qkk
              cases e
              have hy := keyAt_of c3 qkk (x2.same s3.sB)
              have k2 := s2.keep p _ hp1 np
              have n2 : ¬ O2 p := fun q => (s2.nO p q).elim np fun z => by rw [hp1] at z; cases z
              have bb2 := s2.nB p (by rw [hp1]; simp) np bp
              have k3 := s3.keep p _ k2 n2
              have n3 : ¬ O3 p := fun q => (s3.nO p q).elim n2 fun z => by rw [k2] at z; cases z
              have bb3 := s3.nB p (by rw [k2]; simp) n2 bb2
              refine ⟨k3, [(kk, w)], by rw [hy]; rfl, by simp, ?_⟩
              show Q (V.ref p) (upd H3 p (.dK [(kk, w)]))
              have sub : Same B3 (upd H3 p (.dK [(kk, w)])) := fun b x q => by
                by_cases e : b = p
                · subst e; rw [bb3] at q; cases q
                · rw [upd_ne e]; exact c3.sub b x q
              have c4 := c3.mono (H' := upd H3 p (.dK [(kk, w)])) (Same.refl _) sub (fun b q => upd_ne (fun e => n3 (e ▸ q))) c3.off
              have S := (s1.trans s2).trans s3
              have st : Step B H O B3 (upd H3 p (.dK [(kk, w)])) O3 := by
                refine ⟨S.sB, fun b x hb nb => ?_, fun b hb => ?_, S.nB, S.nO⟩
                · rw [upd_ne (fun e => by rw [e, hp] at hb; cases hb)]; exact S.keep b x hb nb
                · rw [upd_ne (fun e => by rw [e, hp] at hb; exact hb rfl)]; exact S.live b hb
              exact pc B3 _ O3 (.ref p) st c4 (b2.trans b3) ⟨p, [p], rfl, ⟨rfl, _, upd_same, .cons ⟨rfl, dp⟩ .nil⟩, fun b hb => by rw [List.mem_singleton.mp hb]; exact ⟨hp, bb3, n3⟩⟩
            · cases e
end
end DL
end

section
namespace DL
open PySem
end DL
end

section
namespace DL
open PySem PySem.Spec PyProof.Rows L2
section
variable {X : Cx}
end
end DL
end

section
namespace DL
open PySem
end DL
namespace DL
open PySem
end DL
end

section
namespace DL
open PySem PySem.Spec PyProof.Rows L2
section
variable {X : Cx}
end
end DL
namespace DL
open PySem PySem.Spec PyProof.Rows L2
section
variable {X : Cx}
end
end DL
end

section
namespace DL
open PySem PySem.Spec PyProof.Rows L2
/-- the law's promise -/
theorem law_sp {K : PySem.W.Frag} {mg : Str → Option Value} {sem : Sem} {m : Nat} (h : ∀ ns : List Int, ns.length ≤ m → ∃ ys, ys.length = 1 ∧ sem [.fz (scrD ns)] = some (.ok (.val (.bool true)), ys))
    (H : Hp) (a : Addr) (ns : List Int) (hl : ns.length ≤ m) (hS : SqL K H a (ns.map V.int)) : spD K mg sem 1 [.ref a] H (fun v _ => v = .bl true) fun _ _ _ => False := by
  obtain ⟨ys, hy, e⟩ := h ns hl
  refine ⟨rfl, H, fun _ => False, [.fz (scrD ns)], ⟨⟨Same.refl _, fun _ h => h.elim, fun _ h => h.elim, rfl, fun i b d h => ?_, fun i b c h => ?_, fun i j b c b' c' l l' F F' _ h => ?_⟩, fun i j k h => ?_⟩, _, ys, e, hy, ?_⟩
  · cases i with
    | zero => cases h; exact ⟨.ref a, rfl, .scr hS rfl⟩
    | succ i => simp at h
  · cases i with
    | zero => cases h
    | succ i => simp at h
  · cases i with
    | zero => cases h
    | succ i => simp at h
  · cases i with
    | zero => cases h
    | succ i => simp at h
  · exact fun B' H' O' v _ _ x => dp_bl x
theorem cx_no {P : Program} {w : World} {H : Hp} {s s' : Shared} {e : Value} (h : L2N.CX P w [] H s (fun _ _ _ => False) e s') : False := by
  obtain ⟨_, _, _, _, _, _, _, _, _, _, _, _, z⟩ := h
  exact z
/-- from the meaning of the text to the row -/
theorem walk_d {l : PySem.W.OpenLaw} {n k : Nat} {q : Program} {loose : List Str} {XP : (Str → Option Value) → Heap → Prop} {YP : World → Heap → Prop} {d : DefRec} {K : Params → PySem.W.Frag} {x : Str} {sem : Sem}
    (hn : l.most = some n) (hn2 : n ≤ sizeLine) (hdf : d.params.defaults = []) (hr : Room k callerA) (hY : ∀ (w : World) (h : Heap), YP w h → (K w.params).In h)
    (ht : ∀ ns : List Int, ns.length ≤ n → ∃ ys, ys.length = 1 ∧ sem [.fz (scrD ns)] = some (.ok (.val (.bool true)), ys))
    (F : ∀ (w : World) (mg : Str → Option Value) (fa : Addr) (h : Heap), (K w.params).In h → h.Ns mainGlobals mg → mg d.name = some (.ref fa) →
      ∃ fd : FuncData, (∀ (s : Shared) (v : Value), BindsTo s fd ⟨[v], []⟩ [(x, v)]) ∧ ∀ base : Heap, (K w.params).In base → base.Ns mainGlobals mg → FnOk l.prog w (K w.params) mg base (L2N.CX l.prog w) k fa fd [x] (spD (K w.params) mg sem 1)) :
    PySem.W.WalkO q loose XP YP l.row.toRowW d [] (fun f vs => PySem.call f vs) :=
  LamX.walk_ofTs (CX := fun w => L2N.CX l.prog w) hn hn2 hdf hr hY (fun w mg fa h Y X G hmg => by
    obtain ⟨fd, hb, hF⟩ := F w mg fa h X G hmg
    exact ⟨fd, [], spD (K w.params) mg sem 1, fun _ h => (nomatch h), fun _ h => (nomatch h), fun _ h => (nomatch h), hb, fun H a ns hl _ _ hS => law_sp ht H a ns hl hS, fun base i g _ => hF base i g⟩) fun _ _ _ _ _ h => cx_no h
end DL
end

section
namespace DL
open PySem PySem.Spec PyProof.Rows L2
/-- what a def keeps at one around -/
def FnAt (P : Program) (w : World) (K : PySem.W.Frag) (mg : Str → Option Value) (base : Heap) (A : Around) (f : Addr) (fd : FuncData) (ps : List Str) (sp : Sp) : Prop :=
  ∀ (st : List Env) (s : Shared) (H : Hp) (as : Args) (us : List Value) (vs : List V) (Q : VK) (E : XK), Env0 P w K mg base A st s H → BindsTo s fd as (ps.zip us) → Vals vs us → sp vs H Q E →
    codeAny (model P w) A (.call (.ref f) as) (CR (L2N.CX P w) st P w H s Q E) s
end DL
end

section
namespace DL
open PySem
mutual
/-- tuples and empty dicts alone: no list inside -/
def layT : D → Bool
  | .none => true
  | .bool _ => true
  | .int _ => true
  | .str x => PyData.strOk x
  | .tuple ds => layTs ds
  | .dict [] => true
  | _ => false
def layTs : List D → Bool
  | [] => true
  | d :: ds => layT d && layTs ds
end
end DL
end

section
namespace DL
open PySem PySem.Spec PyProof.Rows L2
section
variable {X : Cx} {W : WX}
end
/-- what a def keeps where no text is being made -/
structure FnOkG (P : Program) (w : World) (K : PySem.W.Frag) (mg : Str → Option Value) (base : Heap) (k : Nat) (f : Addr) (fd : FuncData) (ps : List Str) (sp : Sp) : Prop where
  len : ∀ vs H Q E, sp vs H Q E → vs.length = ps.length
  run : ∀ A, Room k A → A.guards = some [] → FnAt P w K mg base A f fd ps sp
theorem FnOkG.mono {P : Program} {w : World} {K : PySem.W.Frag} {mg : Str → Option Value} {base : Heap} {j k : Nat} {f : Addr} {fd : FuncData} {ps : List Str} {sp : Sp} (F : FnOkG P w K mg base j f fd ps sp) (h : j ≤ k) : FnOkG P w K mg base k f fd ps sp :=
  ⟨F.len, fun A hr => F.run A (hr.mono h)⟩
section
variable {X : Cx} {W : WX}
end
end DL
end

section
namespace DL
open PySem
end DL
end

section
namespace DL
open PySem PySem.Spec PyProof.Rows L2
section
variable {P : Program} {w : World} {A : Around} {E : Value → Shared → Prop} {s : Shared}
end
section
variable {X : Cx} {W : WX}
end
end DL
end

section
namespace DL
open PySem
end DL
end

section
namespace DL
open PySem PySem.Spec PySem.Calls PyProof.Rows L2
section
variable {X : Cx}
end
end DL
end

section
namespace DL
open PySem
end DL
end

section
namespace DL
open PySem PySem.Spec PySem.Calls PyProof.Rows L2
section
variable {X : Cx} {W : WX}
end
end DL
end

section
namespace DL
open PySem
end DL
end

section
namespace DL
open PySem PySem.Spec PyProof.Rows L2
section
variable {X : Cx}
end
end DL
end

section
namespace DL
open PySem
def gMinDef : List Rs → Option RV
  | [a, .fz d] => match a.data.bind rowOf with
    | some [] => some (.val d)
    | some (x :: xs) => if mmOk (x :: xs) then some (.val (W.minD x xs)) else none
    | none => none
  | _ => none
end DL
end

section
namespace DL
open PySem PySem.Spec PyProof.Rows L2
section
variable {X : Cx} {W : WX}
def rMinDef (X : Cx) : List V → List V → Hp → VK → Prop := fun vs zs H Q => ∃ x y B a b z, vs = [x] ∧ zs = [y] ∧ Same B H ∧ RsR X.K B H a x ∧ RsR X.K B H b y ∧ gMinDef [a, b] = some z ∧ ∀ H' v, Alc X.K B H H' z v → Q v H'
theorem cr_minDef (hc : X.calm = true) (hu : X.A.units + 64 < cLine) : CallRK X (.builtin "min") [Str.ofString "default"] (rMinDef X) := by
  intro pins s σ H vs zs us ws Q I r rz ⟨x, y, B, a, b, z, hx, hy, sb, p1, p2, hg, q⟩
  subst hx
  subst hy
  obtain ⟨u1, rfl, ru⟩ := r.one
  obtain ⟨w1, rfl, rw1⟩ := rz.one
  cases b with
  | ow c => cases hg
  | fz d =>
  have p2 : Dq X.K B y d := p2
  unfold gMinDef at hg
  simp only at hg
  split at hg
  · rename_i e0
    cases hg
    obtain ⟨l, ms, its, rfl, hl, rv, dq, hz⟩ := row_at I sb p1 e0
    cases ru
    cases dq
    cases rv
    rcases hl with hl | hl
    · refine PySem.W.min_list_default (xs := []) (as := []) (I.ok.hd hc) hl (.nil) ⟨fun d hd => (nomatch hd), fun d hd => (nomatch hd)⟩ (by simp only [PyData.depthAll]; omega) (fun _ h' tk hk => ⟨y, H, I.kept hk, rw1, alc_val q p2⟩) (fun y ys i v h' tk bs e => by cases e)
    · refine PySem.W.min_tuple_default (xs := []) (as := []) (I.ok.hd hc) hl (.nil) ⟨fun d hd => (nomatch hd), fun d hd => (nomatch hd)⟩ (by simp only [PyData.depthAll]; omega) (fun _ h' tk hk => ⟨y, H, I.kept hk, rw1, alc_val q p2⟩) (fun y ys i v h' tk bs e => by cases e)
  · rename_i x0 xs e0
    split at hg
    · rename_i hok
      cases hg
      obtain ⟨l, ms, its, rfl, hl, rv, dq, hz⟩ := row_at I sb p1 e0
      cases ru
      obtain ⟨ok, hal⟩ := mm_of hok
      obtain ⟨bs, hr⟩ := dqa_reads I (dqa_same sb dq) rv ok
      have hroom : X.A.units + 1 + PyData.depthAll (x0 :: xs) < cLine := by have := (lay_all ok).2; omega
      have fin : ∀ (i : Nat) v h' tk bs, its.toArray[i]? = some v → Reads h' v (PySem.W.minD x0 xs) bs → (∀ b o, s.heap.get? b = some o → h'.get? b = some o) → EP X pins σ Q v { s with heap := h', toks := tk } := fun i v h' tk bs hv r hk => by
        obtain ⟨y, ry, dy⟩ := mm_item I sb rv dq ok (fun e he => hal.1 e he _ (minD_mem _ _)) hv r hk
        exact ⟨y, H, I.kept hk, ry, alc_val q dy⟩
      rcases hl with hl | hl
      · exact PySem.W.min_list_default (I.ok.hd hc) hl (by simpa using hr) hal hroom (fun e => by cases e) (fun y ys i v h' tk bs e hv r hk => by cases e; exact fin i v h' tk bs hv r hk)
      · exact PySem.W.min_tuple_default (I.ok.hd hc) hl (by simpa using hr) hal hroom (fun e => by cases e) (fun y ys i v h' tk bs e hv r hk => by cases e; exact fin i v h' tk bs hv r hk)
    · cases hg
  · cases hg
theorem de_minDef {e ed : Expr} {p kpos pos : Pos} {ma mb : M AV} (hc : X.calm = true) (hu : X.A.units + 64 < cLine) (hg : Gl X "min") (hm : X.mg "min" = none) (ha : DO X W e ma) (hb : DO X W ed mb)
    (he : backTo pos (starEach [e] X.env) = (false, eval e X.env) :: backTo pos (starEach [] X.env) := by rfl) (hpl : (backTo pos (starEach [e] X.env)).any (·.1) = false := by rfl)
    (he0 : starEach [e] X.env = (false, eval e X.env) :: starEach [] X.env := by rfl)
    (hall : (backToKw pos (keywordEach [⟨some "default", ed, kpos⟩] X.env)).all (·.1.isSome) = true := by rfl) (hnone : (backToKw pos (keywordEach [⟨some "default", ed, kpos⟩] X.env)).any (·.1.isNone) = false := by rfl) (hks : (backToKw pos (keywordEach [⟨some "default", ed, kpos⟩] X.env)).filterMap (·.1) = [Str.ofString "default"] := by rfl) :
    DE X W (.Call (.Name "min" p) [e] [⟨some "default", ed, kpos⟩] pos) (mOp gMinDef [ma, mb]) :=
  pe_weak (pe_callBK (cr_minDef hc hu) hg hm (by first | rfl | decide +kernel) (pa_cons ha pa_nil he0) (pk_cons hb pk_nil) (by decide) (by decide) he hpl hall hnone hks) fun σ H Q h => by
  obtain ⟨B, r, O, h⟩ := h
  rw [mOp_two] at h
  refine tG.of ((h.bind later_rV (R := rA (Cx.g X))).mono ?_)
  rintro x H1 ⟨a, B1, r1, O1, s1, x1, h1⟩
  refine tG.of ((h1.bind later_rV (R := rA (Cx.g X))).mono ?_)
  rintro y H2 ⟨b, B2, r2, O2, s2, x2, h2⟩
  obtain ⟨xs, z, sb, p, hg, q⟩ := h2.fin (.cons (x1.same s2.sB) (.cons x2 .nil))
  cases p with
  | cons p1 p => cases p with
    | cons p2 p =>
      cases p
      exact ⟨_, _, B2, _, _, z, rfl, rfl, sb, p1, p2, hg, q⟩
end
end DL
end

section
namespace DL
open PySem
def endTry (i : Nat) : Option (SO × Ro) → Option (SO × Ro)
  | some (.nx, r2) => match r2[i]? with
    | some z => if putSl.pinnedB z = false then some (.nx, r2.set i .non) else none
    | none => none
  | some (.ret v, r2) => match r2[i]? with
    | some z => if putSl.pinnedB z = false then some (.ret v, r2.set i .non) else none
    | none => none
  | _ => none
/-- try: b; except C as (slot i): the suite, by the class; L: the classes that the clause takes -/
def sTryS (b : S) (L : List String) (i : Nat) (ms : String → S) : S := fun r => match b r with
  | some (.exc x, r1) => match x.row, r1[i]? with
    | none, some y => if L.contains x.cls ∧ putSl.pinnedB y = false then endTry i (ms x.cls (r1.set i .non)) else none
    | _, _ => none
  | z => z
/-- a call of what slot i holds, a def of the module -/
def mCallV (i : Nat) (tbl : List (Str × Sem)) (ms : List (M AV)) : M RV := fun r => match r[i]? with
  | some (.frz _ d) => match (fnName d).bind fun x => tbl.lookup x with
    | some f => mCall f ms r
    | none => none
  | _ => none
end DL
end

section
namespace DL
open PySem PySem.Spec PySem.Calls PyProof.Rows L2
section
variable {X : Cx} {W : WX}
theorem pmk_own0 {C : Addr} {bmB : List Value} {B newId initId : String} {x : Str} {p pos : Pos} (F : ExcBaseFacts B newId initId bmB) (q : PySem.W.excIn X.K C bmB newId = true) (gC : X.mg x = some (.ref C))
    (kC : PySem.W.keepIn X.K (.ref C) = true) (r : Raises X (.ref C)) (hg : Gl X x) (hdb : (x == ("__debug__" : Str)) = false := by decide) :
    L2N.PMk X (.Call (.Name x p) [] [] pos) (fun σ H Q => Q (.ref C) none H) := by
  intro pins s σ H Q I h
  refine wpAny_Call_Name_kw (ld_glob I hg gC ?_ hdb)
  refine PySem.W.callWith_K0 I.kIn kC ?_
  show wpAny _ _ (call (.ref C) []) _ _ _
  obtain ⟨bm, N, nm, qn, bs, hdct, sn, sub, ab, col, dd, k0, k1, k2, k3, k5, mN, hC, hN, hni, T⟩ := exc_obj I.kIn q
  refine wpAny_call_exc_subT F T hC hN hni (fun h' e hm => ?_) (Nat.zero_le _)
  exact L2N.mk_of I hm r h (I.hok.gone hm.new)
theorem ds_raise0 {cls : String} {C : Addr} {p pos pos' : Pos} (hc : X.calm = true) (tk : L2N.Takes X W) (T : ExK X.K X.mg cls C) (hg : Gl X (Str.ofString cls)) (hdb : (Str.ofString cls == ("__debug__" : Str)) = false := by decide) :
    DS X W (.Raise (some (.Call (.Name (Str.ofString cls) p) [] [] pos)) none pos') (sRaise cls) :=
  ps_weak (L2N.ps_raise hc tk (pmk_own0 PySem.F.excBase_ValueError T.q T.gC T.kC (raises_own T.b T.t) hg hdb)) fun D σ H ⟨B, r, O, c, o, r', e, p⟩ => by
    cases e
    exact p B H O σ (.ref C) none .refl c .refl ⟨C, T.gC, rfl, rfl⟩
def tX (X : Cx) (W : WX) (i : Nat) (a : Addr) (m : S) : TS := fun D σ H => σ[i]? = some (some (V.ref a)) ∧ tS (Cx.g X) W m D σ H
theorem dxx_of {i : Nat} {a : Addr} {sts : List Stmt} {m : S} (h : DSs X W sts m) : PSs X sts (tX X W i a m) := pss_weak h fun D σ H h => h.2
theorem dxx_set {i j : Nat} {a : Addr} {x : Str} {e : Expr} {pos pos' : Pos} {sts : List Stmt} {m : M RV} {m2 : S} (hN : X.N.Nodup) (hi : X.N[j]? = some x) (hx : Loc X.env.scope x) (he : DEx X W i a e m) (ht : PSs X sts (tX X W i a m2)) (hne : j ≠ i := by decide)
    (hs : swapsWith e (some (.Name x pos')) pos.line X.env = pure false := by rfl)
    (hf : X.fn x = true ∨ X.env.scope.names.lookup x = some .local := by first | exact .inl rfl | exact .inr rfl | assumption) : PSs X (.Assign [.Name x pos'] e pos :: sts) (tX X W i a (sSeq (sSet j m) m2)) :=
  pss_weak (pss_cons (ps_set hN hi hx he hs hf) ht) fun D σ H ⟨hi, B, r, O, h⟩ => by
    refine ⟨hi, tG.of (h.seq.ex.mono ?_)⟩
    rintro y H1 ⟨v, B1, r1, O1, s1, b1, x1, c1, o, r', e, p⟩
    obtain ⟨rfl, O2, c2, b2, h2⟩ := put_ok c1 e x1 s1.live
    exact ⟨by rw [List.getElem?_set_ne hne]; exact hi, p B1 H1 O2 _ (put_step s1 h2) c2 (b1.trans b2)⟩
/-- an if whose test is not of the clause's own and which tells False is left out; a test by isinstance that is refused: not isinstance(e, C) -/
theorem dxx_skipNot {i : Nat} {a : Addr} {c : Expr} {st : Stmt} {pos pos2 : Pos} {sts : List Stmt} {m2 : S} (he : DEx X W i a c (mC (.bool true))) (ht : PSs X sts (tX X W i a m2))
    (hv : ∀ whole, isTrue c X.env whole = (do let v ← whole; standAt c.pos; holding [v] (truthy v)) := by intro _; rfl) : PSs X (.If (.UnaryOp .Not c pos2) [st] [] pos :: sts) (tX X W i a m2) :=
  pss_weak (pss_cons (ps_if (pt_not (pt_val he hv)) (dss_one (W := W) (ds_stuck (st := st))) pss_nil) ht) fun D σ H ⟨hi, B, r, O, c, o, r', e, p⟩ =>
    ⟨hi, B, r, O, c, _, _, rfl, fun B1 H1 O1 v s1 c1 b1 x1 => ⟨true, dp_bl x1, iteF ⟨hi, tS.of (AtS.after s1 c1 b1 e p)⟩⟩⟩
theorem ds_tryS {x n : Str} {cv : Value} {i : Nat} {body : List Stmt} {b₀ : Stmt} {suite : List Stmt} {np pos pos' : Pos} {mb : S} {L : List String} {ms : String → S} (hs : X.stack = X.env :: X.outer) (hf : X.env.frame = some X.env.locals) (hN : X.N.Nodup) (hi : X.N[i]? = some n) (hln : X.env.kindOf n = some .local)
    (hc : Names X x cv) (tk : L2N.Takes X W)
    (hb : ∀ (W' : WX) (pn : List (Addr × Obj)) (xe : Value → Shared → Prop), L2N.Takes (X.tr pn xe) W' → PassesOwn (model X.prog X.w) X.A X.env xe → DSs (X.tr pn xe) W' body mb)
    (hL : ∀ n ∈ L, ∀ C, X.mg (Str.ofString n) = some (.ref C) → PySem.W.exmOne X.K (.ref C) cv = some true)
    (hS : ∀ n ∈ L, ∀ C, X.mg (Str.ofString n) = some (.ref C) → ∀ (a : Addr) (oe : Obj) (pn : List (Addr × Obj)), L2N.Zn (.ref C) none oe → (∃ vs, oe.data = .fields vs) → PSs (X.suite a ((a, oe) :: pn)) (b₀ :: suite) (tX X (fun _ _ _ _ => False) i a (ms n))) :
    DS X W (.Try body [.ExceptHandler (some (.Name x np)) (some n) (b₀ :: suite) pos'] [] [] pos) (sTryS mb L i ms) :=
  ps_weak (L2N.ps_try_as (i := i) (tb := fun W' => tS (Cx.g X) W' mb)
    (ts := fun a cls d D σ H => ∃ n, n ∈ L ∧ ∃ C, X.mg (Str.ofString n) = some (.ref C) ∧ cls = .ref C ∧ d = none ∧ tX X (fun _ _ _ _ => False) i a (ms n) D σ H)
    hs hf hN hi hln hc tk hb (fun a oe cls d pn hz hv => ⟨fun pins s σ H D I h => by
      obtain ⟨n, hn, C, hC, rfl, rfl, h1⟩ := h
      exact (hS n hn C hC a oe pn hz hv).run pins s σ H D I h1⟩)) fun D σ H ⟨B, r, O, c, o, r', e, p⟩ => by
  refine ⟨B, r, O, c, ?_⟩
  unfold sTryS at e
  cases q : mb r with
  | none => rw [q] at e; cases e
  | some z =>
    obtain ⟨o1, r1⟩ := z
    rw [q] at e
    refine ⟨o1, r1, rfl, ?_⟩
    cases o1 with
    | nx => cases e; exact p
    | brk => cases e; exact p
    | cnt => cases e; exact p
    | ret v => cases e; exact p
    | rets k => cases e; exact p
    | exc x0 =>
      simp only at e
      split at e
      · rename_i y hrow hy
        split at e
        · rename_i hcond
          obtain ⟨h1, h2⟩ := hcond
          intro B1 H1 O1 σ1 cls dx s1 c1 b1 x1
          obtain ⟨C, hC, rfl, hdx⟩ := x1
          rw [hrow] at hdx
          have hdx : dx = none := hdx
          subst hdx
          have hmem : x0.cls ∈ L := by simpa using h1
          refine ⟨true, hL _ hmem C hC, fun _ a ha => ?_, fun z => by cases z⟩
          have hil : i < σ1.length := by rw [← c1.len]; exact (List.getElem?_eq_some_iff.mp hy).1
          have c2 : Con X.K B1 H1 (σ1.set i (some (V.ref a))) (r1.set i .non) O1 := c1.replace (x := .non) (by rw [List.length_set]) (fun k hk => List.getElem?_set_ne (Ne.symm hk)) trivial (fun _ _ z => by cases z)
          refine ⟨x0.cls, hmem, C, hC, rfl, rfl, List.getElem?_set_self hil, B1, _, O1, c2, ?_⟩
          -- back from the suite
          have bk : ∀ {B2 H2 O2 σ2 r2 z}, Con X.K B2 H2 σ2 r2 O2 → Bor (r1.set i .non) (σ1.set i (some (V.ref a))) r2 σ2 → r2[i]? = some z → putSl.pinnedB z = false →
              Con X.K B2 H2 (σ2.set i none) (r2.set i .non) O2 ∧ Bor r σ (r2.set i .non) (σ2.set i none) := fun {B2 H2 O2 σ2 r2 z} c3 b3 hz hzp => by
            refine ⟨c3.replace (x := .non) (by rw [List.length_set]) (fun k hk => List.getElem?_set_ne (Ne.symm hk)) trivial (fun _ _ z => by cases z), fun k w hw pw => ?_⟩
            obtain ⟨⟨w1, g1, g2⟩, g3⟩ := b1 k w hw pw
            have hki : k ≠ i := fun z => by
              subst z
              rw [hy] at g1
              cases g1
              have : putSl.pinnedB y = true := by cases y <;> exact g2
              rw [h2] at this
              cases this
            obtain ⟨⟨w2, g4, g5⟩, g6⟩ := b3 k w1 (by rw [List.getElem?_set_ne (Ne.symm hki)]; exact g1) g2
            refine ⟨⟨w2, by rw [List.getElem?_set_ne (Ne.symm hki)]; exact g4, g5⟩, ?_⟩
            rw [List.getElem?_set_ne (Ne.symm hki), g6, List.getElem?_set_ne (Ne.symm hki), g3]
          unfold endTry at e
          split at e
          · rename_i r2 q2
            split at e
            · rename_i z hz
              split at e
              · rename_i hzp
                cases e
                refine ⟨.nx, r2, q2, fun B2 H2 O2 σ2 s2 c3 b3 => ?_⟩
                obtain ⟨c4, b4⟩ := bk c3 b3 hz hzp
                exact p B2 H2 O2 _ (s1.trans s2) c4 b4
              · cases e
            · cases e
          · rename_i v r2 q2
            split at e
            · rename_i z hz
              split at e
              · rename_i hzp
                cases e
                refine ⟨.ret v, r2, q2, fun B2 H2 O2 σ2 x s2 c3 b3 x3 => ?_⟩
                obtain ⟨c4, b4⟩ := bk c3 b3 hz hzp
                refine p B2 H2 O2 _ x (s1.trans s2) c4 b4 ?_
                exact later_rV (G := Cx.g X) H H1 B2 H2 O2 (σ2.set i none) v x s1.live x3
              · cases e
            · cases e
          · cases e
        · cases e
      · cases e
theorem one_LS {mg : Str → Option Value} {P : String → Addr → Prop} {x : String} {C : Addr} (gC : mg (Str.ofString x) = some (.ref C)) (h : P x C) : ∀ n ∈ [x], ∀ C', mg (Str.ofString n) = some (.ref C') → P n C' := one_L gC h
theorem de_fn {x : Str} {f : Addr} {p : Pos} (hg : Gl X x) (hm : X.mg x = some (.ref f)) (hn : PySem.W.nsIn X.K mainGlobals x = some (some (.ref f))) (hdb : (x == ("__debug__" : Str)) = false := by decide) : DE X W (.Name x p) (mC (fnD x)) :=
  pe_weak (pe_glob (v := .ref f) hg hm rfl hdb) fun σ H Q ⟨B, r, O, c, o, r', e, q⟩ => by
    cases e
    exact q B H O _ .refl c .refl (.fn hn rfl)
theorem fnName_some {d : D} {x : Str} (h : fnName d = some x) : d = fnD x := by
  unfold fnName at h
  split at h
  · cases h; rfl
  · cases h
theorem dq_fn {K : PySem.W.Frag} {H : Hp} {v : V} {x : Str} (h : Dq K H v (fnD x)) : ∃ f, v = .ref f ∧ PySem.W.nsIn K mainGlobals x = some (some (.ref f)) := by
  unfold fnD at h
  generalize e : (PyData.dict [(.str x, .none)] : D) = d at h
  cases h with
  | scr s h => rw [h] at e; simp [scrD] at e
  | fn s h =>
    rw [h] at e
    unfold fnD at e
    cases e
    exact ⟨_, rfl, s⟩
  | dic s => cases e
  | _ => cases e
/-- a def of the table -/
structure FnE (X : Cx) (k n : Nat) (x : Str) (sem : Sem) : Prop where
  ex : ∃ (f : Addr) (fd : FuncData) (ps : List Str), FnOk X.prog X.w X.K X.mg X.base (L2N.CX X.prog X.w) k f fd ps (spD X.K X.mg sem ps.length) ∧ PySem.W.nsIn X.K mainGlobals x = some (some (.ref f)) ∧ PySem.W.keepIn X.K (.ref f) = true ∧ Binds X.K fd ps [] ∧ n = ps.length
theorem call_reads {n : Nat} {sem : Sem} {ms : List (M AV)} {σ : L2.St} {H : Hp} {Q : VK} (hn : ms.length = n) (h : tG (Cx.g X) W (mCall sem ms) (rV (Cx.g X)) σ H Q) :
    tCallS (spD X.K X.mg sem n) (fun σ => WE W σ) (tG (Cx.g X) W (oL ms) (rL (Cx.g X))) σ H Q := by
  obtain ⟨B, r, O, h⟩ := h
  have olen : ∀ (ms : List (M AV)) (r : Ro) as r', oL ms r = some (.ok as, r') → as.length = ms.length := by
    intro ms
    induction ms with
    | nil => intro r as r' e; cases e; rfl
    | cons m ms ih =>
      intro r as r' e
      unfold oL M.bind at e
      split at e
      · cases e
      · rename_i a r1 q
        simp only [M.bind] at e
        split at e
        · cases e
        · rename_i as2 r2 q2
          cases e
          rw [List.length_cons, ih _ _ _ q2, List.length_cons]
        · cases e
      · cases e
  obtain ⟨c0, o0, r0, e0, p0⟩ := h
  have hlen : ∀ as r1, oL ms r = some (.ok as, r1) → as.length = n := fun as r1 q => (olen ms r as r1 q).trans hn
  have h : At (Cx.g X) W (mCall sem ms) (rV (Cx.g X)) B r O σ H Q := ⟨c0, o0, r0, e0, p0⟩
  refine ⟨B, r, O, c0, ?_⟩
  unfold mCall M.bind at e0
  cases q : oL ms r with
  | none => rw [q] at e0; cases e0
  | some z =>
    obtain ⟨o1, r1⟩ := z
    rw [q] at e0
    refine ⟨o1, r1, rfl, ?_⟩
    cases o1 with
    | exc x => cases e0; exact p0
    | ok as =>
      intro B1 H1 O1 vs s1 c1 b1 x1
      simp only at e0
      cases q2 : looks r1 as with
      | none => rw [q2] at e0; cases e0
      | some xs =>
        rw [q2] at e0
        simp only at e0
        split at e0
        · rename_i nd
          cases q3 : sem xs with
          | none => rw [q3] at e0; cases e0
          | some z3 =>
            obtain ⟨o3, ys⟩ := z3
            rw [q3] at e0
            simp only at e0
            split at e0
            · rename_i hl
              cases e0
              have x1 : Paired (AvR X.K B1 σ) as vs := x1
              refine ⟨by rw [← x1.length]; exact hlen as r1 q, B1, lent X.K B1 H1 O1 xs vs, xs, call_in c1 q2 x1 nd.1, o0, ys, q3, hl, ?_⟩
              cases o0 with
              | ok rv =>
                intro B' H' O' v s2 c2 x2
                obtain ⟨O2, s3, c3, b3, ho⟩ := call_out c1 q2 x1 nd.1 nd.2 hl s2 c2
                refine p0 B' H' O2 v (s1.trans s3) c3 (b1.trans b3) (later_rV H H1 B' H' O2 σ rv v s1.live ?_)
                cases rv with
                | val d => exact x2
                | new ct =>
                  obtain ⟨l, F, e1, o, hF⟩ := x2
                  refine ⟨l, F, e1, o, fun a ha => ⟨(hF a ha).1, (hF a ha).2.1, fun z => ?_⟩⟩
                  rcases ho a z with z | z
                  · exact c1.liv a z (hF a ha).1
                  · exact (hF a ha).2.2 z
              | exc x =>
                intro B' H' O' c dx s2 c2 x2
                obtain ⟨O2, s3, c3, b3, ho⟩ := call_out c1 q2 x1 nd.1 nd.2 hl s2 c2
                exact p0 B' H' O2 c dx (s1.trans s3) c3 (b1.trans b3) x2
            · cases e0
        · cases e0
theorem pe_callLS {CX : CXT} {k i : Nat} {f : Addr} {fd : FuncData} {ps : List Str} {sp : Sp} {E : L2.St → XK} {x : Str} {p pos : Pos} {e : Expr} {es : List Expr} {t : TA} (F : FnOk X.prog X.w X.K X.mg X.base CX k f fd ps sp) (hr : Room k X.A) (ho : PE X (.Name x p) (tVar i)) (hk : PySem.W.keepIn X.K (.ref f) = true) (hb : Binds X.K fd ps []) (hx : ∀ σ, PassesAt CX X σ (E σ))
    (ha : PA X (e :: es) t) (he : starEach (e :: es) X.env = (false, eval e X.env) :: starEach es X.env := by rfl) (hpl : (backTo pos (starEach es X.env)).any (·.1) = false := by rfl) :
    PE X (.Call (.Name x p) (e :: es) [] pos) (fun σ H Q => σ[i]? = some (some (.ref f)) ∧ tCallS sp E t σ H Q) := by
  refine ⟨fun pins s σ H Q I h => ?_⟩
  obtain ⟨hs, ht⟩ := h
  refine wpAny_Call_Name_kw (thn (ho.run pins s σ H (fun v H1 => v = .ref f ∧ H1 = H) I ⟨.ref f, hs, rfl, rfl⟩) fun u s1 ⟨v, H1, I1, r1, q1⟩ => ?_)
  obtain ⟨rfl, rfl⟩ := q1
  cases r1
  refine PySem.W.callWith_K (h₀ := X.base) I1.ok.mod.kin hk (thn (ha.run pos pins s1 σ _ _ I1 ht) fun us s2 ⟨vs, H2, I2, r, q⟩ => ⟨I2.kIn, ?_⟩) he hpl
  exact run_fnS F hr hb (hx σ) I2 r q
theorem de_callV {k i n : Nat} {tbl : List (Str × Sem)} {x : Str} {p pos : Pos} {e : Expr} {es : List Expr} {ms : List (M AV)} (tk : L2N.Takes X W) (T : ∀ y sem, tbl.lookup y = some sem → FnE X k n y sem) (hr : Room k X.A) (ho : PE X (.Name x p) (tVar i))
    (hn : ms.length = n) (ha : DA X W (e :: es) (oL ms)) (he : starEach (e :: es) X.env = (false, eval e X.env) :: starEach es X.env := by rfl) (hpl : (backTo pos (starEach es X.env)).any (·.1) = false := by rfl) :
    DE X W (.Call (.Name x p) (e :: es) [] pos) (mCallV i tbl ms) := by
  refine ⟨fun pins s σ H Q I ⟨B, r, O, c, o, r', e1, q⟩ => ?_⟩
  unfold mCallV at e1
  split at e1
  · rename_i b d hd
    split at e1
    · rename_i sem hs
      obtain ⟨y, hy, hl⟩ := Option.bind_eq_some_iff.mp hs
      obtain ⟨f, fd, ps, F, hns, hk, hb, hp⟩ := (T y sem hl).ex
      obtain ⟨v, g1, g2⟩ := c.frz i b d hd
      rw [fnName_some hy] at g2
      obtain ⟨f', rfl, hns'⟩ := dq_fn g2
      rw [hns] at hns'
      cases hns'
      exact (pe_callLS F hr ho hk hb (fun σ => L2N.passAt tk σ) ha he hpl).run pins s σ H Q I ⟨g1, call_reads (hn.trans hp) ⟨B, r, O, c, o, r', e1, q⟩⟩
    · cases e1
  · cases e1
theorem oE_reads {m : M RV} {σ : L2.St} {H : Hp} {Q : VK} (h : tG (Cx.g X) W (oE m) (rA (Cx.g X)) σ H Q) : tG (Cx.g X) W m (rV (Cx.g X)) σ H Q := by
  obtain ⟨B, r, O, c, o, r', e, p⟩ := h
  refine ⟨B, r, O, c, ?_⟩
  unfold oE M.bind at e
  cases q : m r with
  | none => rw [q] at e; cases e
  | some z =>
    obtain ⟨o1, r1⟩ := z
    rw [q] at e
    refine ⟨o1, r1, rfl, ?_⟩
    cases o1 with
    | exc x => cases e; exact p
    | ok rv =>
      simp only [M.of] at e
      cases qd : rv.data with
      | none => rw [qd] at e; cases e
      | some d =>
        rw [qd] at e
        cases e
        intro B1 H1 O1 v s1 c1 b1 x1
        obtain ⟨B2, s2, c2, dp, _⟩ := c1.frozen s1 x1 qd
        exact p B2 H1 O1 v s2 c2 b1 dp
theorem dex_bin {i : Nat} {ad : Addr} {a b : Expr} {op : Operator} {pos : Pos} {g : List Rs → Option RV} {oa : M AV} {m : M RV} (ho : OpD X (binaryOp op) g) (ha : DO X W a oa) (hb : DEx X W i ad b m) : DEx X W i ad (.BinOp a op b pos) (mOp g [oa, oE m]) :=
  pe_weak (pe_op ho ha hb) fun σ H Q ⟨hi, B, r, O, h⟩ => by
    rw [mOp_two] at h
    refine tG.of ((h.bind later_rV (R := rA (Cx.g X))).mono ?_)
    rintro x H1 ⟨a, B1, r1, O1, s1, x1, h1⟩
    refine ⟨hi, oE_reads (tG.of ((h1.bind later_rV (R := rA (Cx.g X))).mono ?_))⟩
    rintro y H2 ⟨b, B2, r2, O2, s2, x2, h2⟩
    obtain ⟨xs, z, sb, p, hg, q⟩ := h2.fin (.cons (x1.same s2.sB) (.cons x2 .nil))
    cases p with
    | cons p1 p => cases p with
      | cons p2 p =>
        cases p
        exact ⟨B2, _, _, z, sb, p1, p2, hg, q⟩
theorem tbl_nil {k n : Nat} : ∀ y sem, ([] : List (Str × Sem)).lookup y = some sem → FnE X k n y sem := fun _ _ h => by cases h
theorem tbl_cons {k n : Nat} {x : Str} {s : Sem} {tbl : List (Str × Sem)} (h : FnE X k n x s) (t : ∀ y sem, tbl.lookup y = some sem → FnE X k n y sem) : ∀ y sem, ((x, s) :: tbl).lookup y = some sem → FnE X k n y sem := fun y sem e => by
  rw [List.lookup_cons] at e
  split at e
  · rename_i hy
    cases e
    rw [eq_of_beq hy]
    exact h
  · exact t y sem e
end
end DL
end

section
set_option maxHeartbeats 2000000
namespace DL
open PySem PySem.Spec PySem.Calls PyProof.Rows L2
abbrev HotC := L2H.HotC
/-- the turning of a range's iterator where an exception is handled -/
structure TurnK (P : Program) (w : World) (K : PySem.W.Frag) (tg : Expr) (J : It) (it : Addr) (tn : Nat → Heap → Prop) : Prop where
  obj : ∀ i h, tn i h → ∃ o, h.get? it = some o ∧ ∀ v, o.data ≠ .cell v
  keep : ∀ i h h', tn i h → (∀ o, h.get? it = some o → h'.get? it = some o) → tn i h'
  item : ∀ (X : Cx), X.prog = P → X.w = w → X.K = K → ∀ (i : Nat) (pins : List (Addr × Obj)) (s : Shared) (σ : L2.St) (H : Hp) (E : Value → Shared → Prop), Inv X pins σ H s → FpOk X pins H it → tn i s.heap → J.go i H →
    wpAny (model P w) X.A (pyNext (.ref it)) (fun r s1 => ∃ u, r = some u ∧
      wpAny (model P w) X.A (letOwnedTupleGo tg (.ref it) u) (fun _ s2 => ∃ x H', Inv X pins σ H' s2 ∧ RelV x u ∧ J.yld i H x H' ∧ tn (i + 1) s2.heap ∧ H' it = none) E s1) E s
  done : ∀ (X : Cx), X.prog = P → X.w = w → X.K = K → ∀ (i : Nat) (pins : List (Addr × Obj)) (s : Shared) (σ : L2.St) (H : Hp) (E : Value → Shared → Prop) (x1 : Addr), HotX.HotAt X.A x1 s.heap → Inv X pins σ H s → FpOk X pins H it → tn i s.heap → J.stop i H →
    wpAny (model P w) X.A (pyNext (.ref it)) (fun r s1 => r = none ∧ Inv X pins σ H s1) E s
  self : ∀ (A : Around) (i : Nat) (s : Shared) (Q : Value → Shared → Prop) (E : Value → Shared → Prop), tn i s.heap → Q (.ref it) s → wpAny (model P w) A (pyIter (.ref it)) Q E s
theorem turnK_range {P : Program} {w : World} {K : PySem.W.Frag} {tg : Expr} (it : Addr) (lo : Int) (n : Nat) : TurnK P w K tg (Itr lo n) it (fun i h => IsRangeIter h it (lo + (i : Nat) * 1) ((n : Int) - (i : Nat)) 1) where
  obj := fun i h st => ⟨_, st, fun v z => by cases (show Data.fields _ = Data.cell v from z)⟩
  keep := fun i h h' st k => k _ st
  item := by
    intro X hP hw hK i pins s σ H E I hf st hg
    subst hP hw hK
    obtain ⟨f0, f1, f2, f3, f4, f5⟩ := hf
    have hlt : i < n := hg
    refine wpAny_pyNext_range_item st (by omega) fun h' st' sb => ?_
    have st2 : IsRangeIter h' it (lo + ((i + 1 : Nat) : Int) * 1) ((n : Int) - ((i + 1 : Nat) : Int)) 1 := by
      rw [show lo + ((i + 1 : Nat) : Int) * 1 = lo + ((i : Nat) : Int) * 1 + 1 by omega, show (n : Int) - ((i + 1 : Nat) : Int) = (n : Int) - ((i : Nat) : Int) - 1 by omega]
      exact st'
    have I1 : Inv X pins σ H { s with heap := h', toks := s.toks + 1 } := I.turned (fun b o hb e => (sb.2 b hb).trans e) f0 f1 f3 f4 f5
    refine ⟨_, rfl, go_of (s := { s with heap := h', toks := s.toks + 1 }) (n := "range_iterator") st2 rfl rfl (by decide) ⟨.int (lo + i), H, I1, ⟨s.toks, ?_⟩, ⟨rfl, rfl⟩, st2, f0⟩⟩
    rw [Int.mul_one]
  done := by
    intro X hP hw hK i pins s σ H E x1 hot I hf st hg
    subst hP hw hK
    obtain ⟨f0, f1, f2, f3, f4, f5⟩ := hf
    exact HotX.pyNext_range_end_hot hot st (by have : n ≤ i := hg; omega) fun h' eb => ⟨rfl, I.turned (t' := s.toks) (fun b o _ e => eb b o e) f0 f1 f3 f4 f5⟩
  self := fun _ _ _ _ _ st h => wpAny_pyIter_rangeiter st h
def PIEK (X : Cx) (pins : List (Addr × Obj)) (σ : L2.St) (tg : Expr) (R : It → Hp → Prop) (itv : Value) (s2 : Shared) : Prop :=
  ∃ (it : Addr) (tn : Nat → Heap → Prop) (J : It) (H' : Hp), itv = .ref it ∧ Inv X pins σ H' s2 ∧ TurnK X.prog X.w X.K tg J it tn ∧ tn 0 s2.heap ∧ FpOk X pins H' it ∧ R J H'
structure PIK (X : Cx) (tg iter : Expr) (wi : TI) : Prop where
  run : ∀ (pins : List (Addr × Obj)) (s : Shared) (σ : L2.St) (H : Hp) (R : It → Hp → Prop), Inv X pins σ H s → wi σ H R →
    wpAny (model X.prog X.w) X.A (eval iter X.env) (fun v s1 => wpAny (model X.prog X.w) X.A (pyIter v) (PIEK X pins σ tg R) X.xe s1) X.xe s
section
variable {X : Cx} {tg : Expr}
theorem range_itK {pins : List (Addr × Obj)} {σ : L2.St} {H : Hp} {s : Shared} {R : It → Hp → Prop} {E : Value → Shared → Prop} {lo hi : Int} {t u v : Tok} {tk : Nat} (I : Inv X pins σ H s) (h1 : -(2 ^ 62) ≤ lo) (h2 : lo < 2 ^ 62) (h3 : -(2 ^ 62) ≤ hi) (h4 : hi < 2 ^ 62)
    (q : R (Itr lo (hi - lo).toNat) H) : wpAny (model X.prog X.w) X.A (pyIter (.ref s.heap.objs.size)) (PIEK X pins σ tg R) E { s with heap := s.heap.push { cls := .type "range", data := .fields #[.int lo t, .int hi u, .int 1 v] }, toks := tk } := by
  refine wpAny_pyIter_range (IsRange.new ..) (small_one h1 h2 h3 h4) ?_
  have I1 : Inv X pins σ H { s with heap := s.heap.push { cls := .type "range", data := .fields #[.int lo t, .int hi u, .int 1 v] }, toks := tk } := I.kept fun b o e => Heap.get?_push_of_some _ e
  refine ⟨_, _, _, H, rfl, I1.kept (t' := tk) fun b o e => Heap.get?_push_of_some _ e, turnK_range _ lo (hi - lo).toNat, ?_, I1.fpOk (Nat.le_refl _) (I1.hok.fresh (Nat.le_refl _)), q⟩
  have e1 : lo + ((0 : Nat) : Int) * 1 = lo := by simp
  have e2 : (((hi - lo).toNat : Nat) : Int) - ((0 : Nat) : Int) = Builtin.Range.rangeSize lo hi 1 := by rw [rangeSize_one]; split <;> omega
  show IsRangeIter _ _ (lo + ((0 : Nat) : Int) * 1) ((((hi - lo).toNat : Nat) : Int) - ((0 : Nat) : Int)) 1
  rw [e1, e2]
  exact Heap.get?_push_size _ rfl
theorem pik_rng1 {a : Expr} {ta : TA} {p pos : Pos} (hg : Gl X "range") (hm : X.mg "range" = none) (ha : PA X [a] ta) (hs : starEach [a] X.env = [(false, eval a X.env)] := by rfl) : PIK X tg (.Call (.Name "range" p) [a] [] pos) (iRng1 ta) := by
  refine ⟨fun pins s σ H R I h => ?_⟩
  refine Call_ (ld_blt I hg hm boot_range (PyProof.Rows.callWith_type1 (thn (ha.run pos pins s σ H _ I h) fun us s1 ⟨vs, H1, I1, r1, q1⟩ => ?_) hs rfl))
  obtain ⟨hi, e, q1, q2, q⟩ := q1
  subst e
  cases r1 with
  | cons r rr =>
    cases rr
    obtain ⟨t, rfl⟩ := r
    exact call_range_1 (range_itK I1 (by omega) (by omega) q1 q2 (by simpa using q))
theorem takesN0 {X : Cx} : L2N.Takes X (fun _ _ _ _ => False) := fun _ _ x => by
  obtain ⟨_, _, _, _, _, _, _, _, _, _, _, _, _, _, _, _, z⟩ := x
  exact z.elim
theorem lc_coreK {pins : List (Addr × Obj)} {s : Shared} {σ : L2.St} {H : Hp} {Q : VK} {elt iter : Expr} {ifs : List Expr} {scope : Scope} {own : List (Str × Nat)} {pos pos' : Pos} {wi : TI} {g : TG} {tt : TT} {te : TE} {use : Option (Value → PySem.Sem Unit)} {Qf : Value → Shared → Prop}
    (hc : HotC X) (hN : X.N.Nodup) (I : Inv X pins σ H s) (hi : PIK X tg iter wi) (ok : BlkOk X.N X.env.scope scope own)
    (hg : ∀ (s : Shared) (H : Hp) (C : Addr) (cl : List (Str × Addr)) (fp : List Addr), PG (X.blk s H scope (compEnvC scope cl C X.env) fp) tg g) (ht : ∀ (s : Shared) (H : Hp) (C : Addr) (cl : List (Str × Addr)) (fp : List Addr), PTs (X.blk s H scope (compEnvC scope cl C X.env) fp) ifs tt)
    (he : ∀ (s : Shared) (H : Hp) (C : Addr) (cl : List (Str × Addr)) (fp : List Addr), PE (X.blk s H scope (compEnvC scope cl C X.env) fp) elt te) (hs : ∀ x, foldedSetIterable iter X.env x = pure x)
    (h : tLc wi g tt te (own.map (·.2)) σ H Q)
    (hRR : ∀ D C s' m H', Inv X pins σ H' s' → Q (.ref D) H' → s'.heap.Ns C m → FpOk X pins H' C → compPost (model X.prog X.w) X.A X.xe use Qf (.ref D) C (.ok .next) s') :
    wpAny (model X.prog X.w) X.A (comprehension (.ListComp elt [⟨tg, iter, ifs, 0⟩] scope pos) scope X.env pos' (newList []) false (eval iter X.env) use) Qf X.xe s := by
  have hfree : ∀ y ∈ scope.names, y.2 = .free → ∃ c, X.env.cells.lookup y.1 = some c := fun y hy e => (ok.free y hy e).elim (fun k => I.ok.has _ (.inl k)) fun k => I.ok.has _ (.inr k)
  refine wpAny_comprehension_free (use := use) rfl hs (closure_ok hfree) ok.kind (fun y hy e => by rw [ok.uniq y hy, e]) (thn (hi.run pins s σ H _ I h) fun xv s1 hx => thn hx fun itv s2 h2 => ?_)
  obtain ⟨it, tn, J, H2, e, I2, T, st2, f2, q⟩ := h2
  subst e
  refine wpAny_newObj_type (newEnv_comp ?_) (by show 0 ≤ sizeLine; decide)
  generalize hD : s2.heap.objs.size = D
  have hDn : H2 D = none := I2.hok.fresh (Nat.le_of_eq hD)
  obtain ⟨W, ⟨m0, w0⟩, turn⟩ := q D hDn
  generalize hs3 : ({ s2 with heap := s2.heap.push { cls := .type "list", data := .seq ([] : List Value).toArray } } : Shared) = s3
  have h3 : s3.heap = s2.heap.push { cls := .type "list", data := .seq ([] : List Value).toArray } := by rw [← hs3]
  have I3 : Inv X pins σ (upd H2 D (.lst [])) s3 := by
    rw [← hs3]
    refine I2.laid (t' := s2.toks) (fun b o e => Heap.get?_push_of_some _ e) (Nat.le_of_eq hD) ⟨Nat.zero_le _, [], 0, .nil, ?_⟩
    rw [← hD]
    exact Heap.get?_push_size _ rfl
  have hlt : it < s2.heap.objs.size := by
    obtain ⟨o, e, _⟩ := T.obj _ _ st2
    exact Heap.lt_size e
  have f3 : FpOk X pins (upd H2 D (.lst [])) it := ⟨by rw [upd_ne (by rw [← hD]; exact Nat.ne_of_lt hlt)]; exact f2.1, f2.2⟩
  have f3s : it < s3.heap.objs.size := by rw [h3, Heap.size_push]; exact Nat.lt_succ_of_lt hlt
  have f3L : ∀ b ∈ [it], FpOk X pins (upd H2 D (.lst [])) b ∧ b < s3.heap.objs.size := fun b hb => by
    rw [List.mem_singleton.mp hb]
    exact ⟨f3, f3s⟩
  have st3 : tn 0 s3.heap := T.keep _ _ _ st2 fun o e => by rw [h3]; exact Heap.get?_push_of_some _ e
  have I4 := block_start I3 ok hN f3L
  have pg := hg s3 (upd H2 D (.lst [])) s3.heap.objs.size (cellsFrom (s3.heap.objs.size + 1) scope.names (cloFrom X.env.cells scope.names [])) [it]
  have pt := ht s3 (upd H2 D (.lst [])) s3.heap.objs.size (cellsFrom (s3.heap.objs.size + 1) scope.names (cloFrom X.env.cells scope.names [])) [it]
  have pe := he s3 (upd H2 D (.lst [])) s3.heap.objs.size (cellsFrom (s3.heap.objs.size + 1) scope.names (cloFrom X.env.cells scope.names [])) [it]
  show codeAny _ _ (.compStart (.ListComp elt [⟨tg, iter, ifs, 0⟩] scope pos) 0 (.ref it) (.ref D) (compEnvC scope (cellsFrom (s3.heap.objs.size + 1) scope.names (cloFrom X.env.cells scope.names [])) s3.heap.objs.size X.env)) (compPost (model X.prog X.w) X.A X.xe use Qf (.ref D) s3.heap.objs.size) { s3 with heap := pushCells (s3.heap.push { cls := .type "dict", data := .dict #[] }) scope.names }
  have nit : (upd H2 D (.lst [])) it = none := f3.1
  generalize hce : compEnvC scope (cellsFrom (s3.heap.objs.size + 1) scope.names (cloFrom X.env.cells scope.names [])) s3.heap.objs.size X.env = ce at I4 pg pt pe ⊢
  have cL : ce.locals = s3.heap.objs.size := by subst hce; rfl
  generalize hH3 : upd H2 D (.lst []) = H3 at I3 I4 pg pt pe w0 nit f3 f3L
  generalize hs4 : ({ s3 with heap := pushCells (s3.heap.push { cls := .type "dict", data := .dict #[] }) scope.names } : Shared) = s4 at I4 ⊢
  have st4 : tn 0 s4.heap := T.keep _ _ _ st3 fun o e => by rw [← hs4]; exact pushCells_keeps _ _ _ _ (Heap.get?_push_of_some _ e)
  have stat : ∀ {σ' : L2.St} {H' : Hp} {s' : Shared}, Inv (X.blk s3 H3 scope ce [it]) [] σ' H' s' → H' it = none → FpOk (X.blk s3 H3 scope ce [it]) [] H' it := fun {σ' H' s'} I' hn =>
    ⟨hn, (I'.ok.exf it (List.mem_singleton.mpr rfl)).1, I'.ok.exfs it (List.mem_singleton.mpr rfl), .inl (List.mem_singleton.mpr rfl), fun x c e => (I'.ok.exf it (List.mem_singleton.mpr rfl)).2 x c e, fun p hp => absurd (show p ∈ ([] : List (Addr × Obj)) ++ [] from hp) (by simp)⟩
  -- the handled exception stands as it was
  have hotB : ∀ {σ' : L2.St} {H' : Hp} {s' : Shared}, Inv (X.blk s3 H3 scope ce [it]) [] σ' H' s' → ∃ x1, HotX.HotAt X.A x1 s'.heap := fun {σ' H' s'} I' => by
    obtain ⟨p, ⟨hh, v1, e1, c1⟩, hp⟩ := hc
    have P := I3.pin p (List.mem_append_left _ hp)
    have nS : p.1 ∉ frs X.stack := fun hm => (List.mem_cons.mp (I3.stkSub p.1 hm)).elim P.2.2.1 P.2.2.2.1
    have nI : p.1 ∉ [it] := fun hm => f3.2.2.2.2.2 p (List.mem_append_left _ hp) (List.mem_singleton.mp hm)
    exact ⟨p.1, hh, p.2, v1, I'.base.keep p.1 p.2 P.1 P.2.1 nS nI, e1, c1⟩
  have loop : codeAny (model X.prog X.w) X.A (.compLoop (.ListComp elt [⟨tg, iter, ifs, 0⟩] scope pos) 0 (.ref it) (.ref D) ce) (compPost (model X.prog X.w) X.A X.xe use Qf (.ref D) s3.heap.objs.size) s4 := by
    refine compLoop_any (fun n s' => ∃ i H', Inv (X.blk s3 H3 scope ce [it]) [] (wipe σ (own.map (·.2))) H' s' ∧ tn i s'.heap ∧ H' it = none ∧ W i n H') ?_ m0 ⟨0, H3, I4, st4, nit, w0⟩
    rintro n s5 ⟨i, H5, I5, st5, n5, w5⟩
    rcases turn i n H5 w5 with ⟨stop, qq⟩ | ⟨go, Nx, hNx, step⟩
    · obtain ⟨x1, hot⟩ := hotB I5
      refine thnF (T.done (X.blk s3 H3 scope ce [it]) rfl rfl rfl i [] s5 _ H5 (fun _ _ => False) x1 hot I5 (stat I5 n5) st5 stop) fun r s6 ⟨hr, I6⟩ => ?_
      subst hr
      have I7 : Inv X pins σ H5 s6 := I3.call' (ch := [it]) I6.os I6.base I6.hok I6.bare fun b hb => by
        rw [List.mem_singleton.mp hb]
        exact ⟨f3.2.2.2.1, f3.2.1, f3.2.2.2.2.1, f3.2.2.2.2.2⟩
      have nC : H5 s3.heap.objs.size = none := by
        rw [← cL]
        exact I6.free
      obtain ⟨m, hn, _⟩ := I6.loc
      have hn : s6.heap.Ns ce.locals m := hn
      rw [cL] at hn
      exact hRR D s3.heap.objs.size s6 m H5 I7 qq hn (I3.fpOk (Nat.le_refl _) nC)
    · refine thnF (T.item (X.blk s3 H3 scope ce [it]) rfl rfl rfl i [] s5 _ H5 (fun _ _ => False) I5 (stat I5 n5) st5 go) fun r s6 ⟨u, hr, h6⟩ => ?_
      subst hr
      refine thnF h6 fun _ s7 ⟨x, H7, I7, r7, y7, st7, n7⟩ => ?_
      have I7' := I7.pinned (fp := [it]) (fun b hb => by rw [List.mem_singleton.mp hb]; exact stat I7 n7) (fun b hb => by rw [List.mem_singleton.mp hb]; exact T.obj _ _ st7)
      refine thnF (pg.run _ s7 _ H7 x u _ I7' r7 (step x H7 y7)) fun _ s8 ⟨σ8, H8, I8, hw8, q8⟩ => ?_
      refine thnF (pt.run _ s8 σ8 H8 _ I8 q8) fun b s9 ⟨H9, I9, q9⟩ => ?_
      have fin : ∀ {s' : Shared} {H' : Hp}, Inv (X.blk s3 H3 scope ce [it]) ([] ++ pinsAt [it] s7.heap) σ8 H' s' → Nx H' → ∃ m, m < n ∧ ∃ i H', Inv (X.blk s3 H3 scope ce [it]) [] (wipe σ (own.map (·.2))) H' s' ∧ tn i s'.heap ∧ H' it = none ∧ W i m H' := fun {s' H'} I' nx => by
        obtain ⟨m', hm, w'⟩ := hNx H' nx
        have pin' : ∀ o, s7.heap.get? it = some o → s'.heap.get? it = some o ∧ H' it = none := fun o e =>
          let z := I'.pin (it, o) (List.mem_append_right _ (List.mem_append_right _ (mem_pinsAt (List.mem_singleton.mpr rfl) e)))
          ⟨z.1, z.2.1⟩
        have hl : (wipe σ (own.map (·.2))).length = σ8.length := by rw [← hw8, wipe_length]
        obtain ⟨o, eo, _⟩ := T.obj _ _ st7
        refine ⟨m', hm, i + 1, H', (I'.unpinned (pins := [])).weak hl (fun j v e => ?_), T.keep _ _ _ st7 fun o e => (pin' o e).1, (pin' o eo).2, w'⟩
        rw [← hw8] at e
        exact (wipe_some e).1
      cases b with
      | false =>
        simp only [Bool.false_eq_true, if_false] at q9 ⊢
        exact fin I9 q9
      | true =>
        simp only [if_true] at q9 ⊢
        refine thnF (pe.run _ s9 σ8 H9 _ I9 q9) fun z s10 ⟨yv, H10, I10, r10, acc, hD10, hz10, nx⟩ => ?_
        exact app_ok (X := X.blk s3 H3 scope ce [it]) I10 hD10 hz10 r10 fun s11 I11 => fin I11 nx
  exact codeAny_compStart_list loop (T.self X.A 0 _ _ _ st4 loop)
theorem pe_lcK {elt iter : Expr} {ifs : List Expr} {scope : Scope} {own : List (Str × Nat)} {pos : Pos} {wi : TI} {g : TG} {tt : TT} {te : TE} (hc : HotC X) (hN : X.N.Nodup) (hi : PIK X tg iter wi) (ok : BlkOk X.N X.env.scope scope own)
    (hg : ∀ (s : Shared) (H : Hp) (C : Addr) (cl : List (Str × Addr)) (fp : List Addr), PG (X.blk s H scope (compEnvC scope cl C X.env) fp) tg g) (ht : ∀ (s : Shared) (H : Hp) (C : Addr) (cl : List (Str × Addr)) (fp : List Addr), PTs (X.blk s H scope (compEnvC scope cl C X.env) fp) ifs tt)
    (he : ∀ (s : Shared) (H : Hp) (C : Addr) (cl : List (Str × Addr)) (fp : List Addr), PE (X.blk s H scope (compEnvC scope cl C X.env) fp) elt te) (hs : ∀ x, foldedSetIterable iter X.env x = pure x := by intro _; rfl) :
    PE X (.ListComp elt [⟨tg, iter, ifs, 0⟩] scope pos) (tLc wi g tt te (own.map (·.2))) := by
  refine ⟨fun pins s σ H Q I h => ?_⟩
  rw [eval_ListComp]
  refine lc_coreK hc hN I hi ok hg ht he hs h fun D C s' m H' I' q hn f => ⟨m, hn, fun h'' sb => ?_⟩
  obtain ⟨f0, f1, f2, f3, f4, f5⟩ := f
  exact ⟨.ref D, H', I'.turned (t' := s'.toks) (fun b o hb e => (sb.2 b hb).trans e) f0 f1 f3 f4 f5, rfl, q⟩
end
section
variable {X : Cx} {W : WX}
def DIK (X : Cx) (W : WX) (lo : Bool) (tg iter : Expr) (m : M (List D)) : Prop := PIK X tg iter (tG (Cx.g X) W m (rI (Cx.g X) lo))
theorem pik_weak {tg e : Expr} {t t' : TI} (h : PIK X tg e t) (w : ∀ σ H Q, t' σ H Q → t σ H Q) : PIK X tg e t' := ⟨fun pins s σ H Q I q => h.run pins s σ H Q I (w σ H Q q)⟩
theorem dik_rng1 {lb : Bool} {tg a : Expr} {p pos : Pos} {ma : M AV} (hg : Gl X "range") (hm : X.mg "range" = none) (ha : DO X W a ma) (hs : starEach [a] X.env = [(false, eval a X.env)] := by rfl) (hs2 : starEach [a] X.env = (false, eval a X.env) :: starEach [] X.env := by rfl) : DIK X W lb tg (.Call (.Name "range" p) [a] [] pos) (mOpL gRng1 [ma]) :=
  pik_weak (pik_rng1 hg hm (da_cons ha da_nil hs2) hs) fun σ H Q ⟨B, r, O, h⟩ => by
    refine tG.of (h.opsL.mono ?_)
    rintro vs H1 ⟨B1, xs, ds, sb, p, hg, q⟩
    unfold gRng1 at hg
    split at hg
    · rename_i j
      split at hg
      · rename_i hj
        cases hg
        cases p with
        | cons p1 p =>
          cases p
          cases dp_int p1
          obtain ⟨h1, h2⟩ := okR_of hj
          refine ⟨j, rfl, h1, h2, q _ ?_⟩
          have := serves_range (lb := lb) (K := X.K) (B0 := B1) (lo := 0) (hi := j)
          rwa [Int.sub_zero] at this
      · cases hg
    · cases hg
theorem de_lcK {lo : Bool} {elt tg iter : Expr} {ifs : List Expr} {scope : Scope} {own : List (Str × Nat)} {pos : Pos} {mi : M (List D)} {ix : List Nat} {set : D → S} {t : M Bool} {me : M RV} (hc : HotC X) (hN : X.N.Nodup) (hi : DIK X W lo tg iter mi) (ok : BlkOk X.N X.env.scope scope own)
    (hg : ∀ (s : Shared) (H : Hp) (C : Addr) (cl : List (Str × Addr)) (fp : List Addr), DG (X.blk s H scope (compEnvC scope cl C X.env) fp) lo tg ix set) (ht : ∀ (s : Shared) (H : Hp) (C : Addr) (cl : List (Str × Addr)) (fp : List Addr), DTs (X.blk s H scope (compEnvC scope cl C X.env) fp) W0 ifs t)
    (he : ∀ (s : Shared) (H : Hp) (C : Addr) (cl : List (Str × Addr)) (fp : List Addr), DE (X.blk s H scope (compEnvC scope cl C X.env) fp) W0 elt me) (hix : ∀ j ∈ ix, j ∈ own.map (·.2)) (hs : ∀ x, foldedSetIterable iter X.env x = pure x := by intro _; rfl) :
    DE X W (.ListComp elt [⟨tg, iter, ifs, 0⟩] scope pos) (mLc (own.map (·.2)) mi set t me) :=
  pe_weak (pe_lcK (g := gD X.K lo ix set) (tt := tG (Cx.g X) W0 t rB) (te := tG (Cx.g X) W0 me (rV (Cx.g X))) hc hN hi ok hg ht he hs) fun σ H Q h => lc_read hix h
/-- the suite of a caught exception whose context is None -/
theorem hot_suite {a : Addr} {oe : Obj} {pn : List (Addr × Obj)} {cls : Value} {d : Option Addr} (hz : L2N.Zn cls d oe) (hf : ∃ vs, oe.data = .fields vs) : HotC (X.suite a ((a, oe) :: pn)) := by
  obtain ⟨vs, hv⟩ := hf
  exact ⟨(a, oe), ⟨rfl, vs, hv, hz.2.2 vs hv⟩, List.mem_cons_self⟩
end
end DL
end

section
namespace DL
open PySem
/-- an expression's end -/
def endP {α : Type} (X : Exn → Ro → Prop) (Q : α → Ro → Prop) : EO α → Ro → Prop
  | .ok a, r => Q a r
  | .exc x, r => X x r
@[simp, simp ↓] theorem endP_ok {α : Type} {X : Exn → Ro → Prop} {Q : α → Ro → Prop} {a : α} {r : Ro} : endP X Q (.ok a) r = Q a r := rfl
@[simp, simp ↓] theorem endP_exc {α : Type} {X : Exn → Ro → Prop} {Q : α → Ro → Prop} {x : Exn} {r : Ro} : endP X Q (.exc x) r = X x r := rfl
theorem endP.mono {α : Type} {X X' : Exn → Ro → Prop} {Q Q' : α → Ro → Prop} {o : EO α} {r : Ro} (h : endP X Q o r) (i : ∀ a r, Q a r → Q' a r) (j : ∀ x r, X x r → X' x r) : endP X' Q' o r := by
  cases o with
  | ok a => exact i _ _ h
  | exc x => exact j _ _ h
/-- a mark: what it speaks of is not looked into -/
inductive Tok {β : Type} (Q : β) : Type where
  | tok
/-- the option holds a value, of which Q holds -/
def optP {α : Type} (o : Option α) (Q : α → Prop) (t : Tok Q := .tok) : Prop := ∃ v, o = some v ∧ Q v
@[simp, simp ↓] theorem optP_some {α : Type} {v : α} {Q : α → Prop} : optP (some v) Q ↔ Q v := by simp [optP]
@[simp, simp ↓] theorem optP_none {α : Type} {Q : α → Prop} : optP none Q ↔ False := by simp [optP]
@[simp, simp ↓] theorem optP_map {α β : Type} {o : Option α} {f : α → β} {Q : β → Prop} : optP (o.map f) Q ↔ optP o fun a => Q (f a) := by cases o <;> simp
@[simp, simp ↓] theorem optP_bind {α β : Type} {o : Option α} {f : α → Option β} {Q : β → Prop} : optP (o.bind f) Q ↔ optP o fun a => optP (f a) Q := by cases o <;> simp
@[simp, simp ↓] theorem optP_ite {α : Type} {c : Prop} [Decidable c] {x : α} {Q : α → Prop} : optP (if c then some x else none) Q ↔ c ∧ Q x := by by_cases h : c <;> simp [h]
/-- the slots changed -/
def setP (r : Ro) (i : Nat) (x : Sl) (k : Ro → Prop) : Prop := k (r.set i x)
@[simp, simp ↓] theorem setP_0 {a x : Sl} {r : Ro} {k : Ro → Prop} : setP (a :: r) 0 x k ↔ k (x :: r) := Iff.rfl
@[simp, simp ↓] theorem setP_s {a x : Sl} {r : Ro} {n : Nat} {k : Ro → Prop} : setP (a :: r) (n + 1) x k ↔ setP r n x fun r' => k (a :: r') := Iff.rfl
/-- a fork -/
def ifP (x : Bool) (A B : Prop) (t : Tok A := .tok) (u : Tok B := .tok) : Prop := (x = true → A) ∧ (x = false → B)
@[simp, simp ↓] theorem ifP_true {A B : Prop} : ifP true A B ↔ A := by simp [ifP]
@[simp, simp ↓] theorem ifP_false {A B : Prop} : ifP false A B ↔ B := by simp [ifP]
@[simp, simp ↓] theorem ifP_not {x : Bool} {A B : Prop} : ifP (!x) A B ↔ ifP x B A := by cases x <;> simp
@[simp] theorem ifP_dec {c : Prop} [Decidable c] {A B : Prop} : ifP (decide c) A B ↔ (c → A) ∧ (¬ c → B) := by by_cases h : c <;> simp [h]
/-- the expression answers a value, of which Q holds, or raises what X says -/
def E {α : Type} (X : Exn → Ro → Prop) (m : M α) (r : Ro) (Q : α → Ro → Prop) : Prop := ∃ o r', m r = some (o, r') ∧ endP X Q o r'
/-- the statement ends so that Q holds -/
def W (s : S) (r : Ro) (Q : SO → Ro → Prop) : Prop := ∃ o r', s r = some (o, r') ∧ Q o r'
/-- the def answers so that Q holds -/
def Oks (f : Sem) (xs : List Rs) (Q : EO RV → List Rs → Prop) : Prop := ∃ o ys, f xs = some (o, ys) ∧ Q o ys
theorem E.mono {α : Type} {X : Exn → Ro → Prop} {m : M α} {r : Ro} {Q Q' : α → Ro → Prop} (h : E X m r Q) (i : ∀ a r, Q a r → Q' a r) : E X m r Q' := by
  obtain ⟨a, r', e, q⟩ := h
  exact ⟨a, r', e, q.mono i fun _ _ h => h⟩
theorem W.mono {s : S} {r : Ro} {Q Q' : SO → Ro → Prop} (h : W s r Q) (i : ∀ o r, Q o r → Q' o r) : W s r Q' := by
  obtain ⟨a, r', e, q⟩ := h
  exact ⟨a, r', e, i _ _ q⟩
theorem Oks.mono {f : Sem} {xs : List Rs} {Q Q' : EO RV → List Rs → Prop} (h : Oks f xs Q) (i : ∀ v ys, Q v ys → Q' v ys) : Oks f xs Q' := by
  obtain ⟨a, r', e, q⟩ := h
  exact ⟨a, r', e, i _ _ q⟩
theorem E_some {α : Type} {X : Exn → Ro → Prop} {m : M α} {r r' : Ro} {a : α} {Q : α → Ro → Prop} (h : m r = some (.ok a, r')) : E X m r Q ↔ Q a r' :=
  ⟨fun ⟨b, r2, e, q⟩ => (by rw [h] at e; cases e; exact q), fun q => ⟨.ok a, r', h, q⟩⟩
theorem E_exc {α : Type} {X : Exn → Ro → Prop} {m : M α} {r r' : Ro} {x : Exn} {Q : α → Ro → Prop} (h : m r = some (.exc x, r')) : E X m r Q ↔ X x r' :=
  ⟨fun ⟨b, r2, e, q⟩ => (by rw [h] at e; cases e; exact q), fun q => ⟨.exc x, r', h, q⟩⟩
theorem E_no {α : Type} {X : Exn → Ro → Prop} {m : M α} {r : Ro} {Q : α → Ro → Prop} (h : m r = none) : E X m r Q ↔ False :=
  ⟨fun ⟨b, r2, e, q⟩ => (by rw [h] at e; cases e), fun q => q.elim⟩
section
variable {α β : Type} {X : Exn → Ro → Prop} {r : Ro}
@[simp, simp ↓] theorem E_bind {m : M α} {f : α → M β} {Q : β → Ro → Prop} : E X (m.bind f) r Q ↔ E X m r fun a r' => E X (f a) r' Q := by
  cases hm : m r with
  | none => rw [E_no hm, E_no (by simp only [M.bind, hm])]
  | some p =>
    obtain ⟨o, r1⟩ := p
    cases o with
    | ok a =>
      rw [E_some hm]
      unfold E M.bind
      rw [hm]
    | exc x => rw [E_exc hm, E_exc (by simp only [M.bind, hm]; rfl)]
@[simp, simp ↓] theorem E_ret {a : α} {Q : α → Ro → Prop} : E X (M.ret a) r Q ↔ Q a r := E_some rfl
@[simp, simp ↓] theorem E_of {o : Option α} {Q : α → Ro → Prop} : E X (M.of o) r Q ↔ optP o fun a => Q a r := by
  cases o with
  | none => rw [E_no rfl]; simp
  | some a => rw [E_some (m := M.of (some a)) (r := r) (a := a) (r' := r) rfl]; simp
@[simp, simp ↓] theorem E_mC {d : D} {Q : RV → Ro → Prop} : E X (mC d) r Q ↔ Q (.val d) r := E_ret
@[simp, simp ↓] theorem E_mYes {Q : Bool → Ro → Prop} : E X mYes r Q ↔ Q true r := E_ret
def rdP (i : Nat) (r : Ro) (Q : RV → Ro → Prop) (x : Option Sl) (t : Tok Q := .tok) : Prop := match x with
  | some (.frz _ d) => Q (.val d) r
  | some (.own b (.lst ds)) => setP r i (.frz b (.list ds)) (Q (.val (.list ds)))
  | some (.own b (.ll rows)) => setP r i (.frz b (.list (rows.map .list))) (Q (.val (.list (rows.map .list))))
  | _ => False
@[simp, simp ↓] theorem rdP_frz {i : Nat} {b : Bool} {d : D} {Q : RV → Ro → Prop} : rdP i r Q (some (.frz b d)) = Q (.val d) r := rfl
@[simp, simp ↓] theorem rdP_lst {i : Nat} {b : Bool} {ds : List D} {Q : RV → Ro → Prop} : rdP i r Q (some (.own b (.lst ds))) = setP r i (.frz b (.list ds)) (Q (.val (.list ds))) := rfl
@[simp, simp ↓] theorem rdP_ll {i : Nat} {b : Bool} {rows : List (List D)} {Q : RV → Ro → Prop} : rdP i r Q (some (.own b (.ll rows))) = setP r i (.frz b (.list (rows.map .list))) (Q (.val (.list (rows.map .list)))) := rfl
@[simp, simp ↓] theorem E_mRd {i : Nat} {Q : RV → Ro → Prop} : E X (mRd i) r Q ↔ rdP i r Q (r[i]?) := by
  cases h : r[i]? with
  | none => rw [E_no (by simp only [mRd, h])]; simp [rdP]
  | some x => cases x with
    | non => rw [E_no (by simp only [mRd, h])]; simp [rdP]
    | frz b d => rw [E_some (by simp only [mRd, h]; rfl)]; simp [rdP]
    | own b c => cases c with
      | lst ds => rw [E_some (by simp only [mRd, h]; rfl)]; simp [rdP, setP]
      | ll ds => rw [E_some (by simp only [mRd, h]; rfl)]; simp [rdP, setP]
      | dK ds => rw [E_no (by simp only [mRd, h])]; simp [rdP]
      | dT ds => rw [E_no (by simp only [mRd, h])]; simp [rdP]
      | dl ds => rw [E_no (by simp only [mRd, h])]; simp [rdP]
    | al j k => rw [E_no (by simp only [mRd, h])]; simp [rdP]
@[simp] theorem look_val {d : D} : look r (.val d) = some (.fz d) := rfl
@[simp] theorem look2_val {d : D} : look2 r (.val d) = some (.fz d) := rfl
def lookSl : Option Sl → Option Rs
  | some (.frz _ d) => some (.fz d)
  | some (.own _ c) => some (.ow c)
  | _ => none
def lookAl (r : Ro) (k : Nat) : Option Sl → Option Rs
  | some (.own _ (.ll rows)) => rows[k]?.map fun ds => .ow (.lst ds)
  | _ => none
def lookSl2 (r : Ro) : Option Sl → Option Rs
  | some (.frz _ d) => some (.fz d)
  | some (.own _ c) => some (.ow c)
  | some (.al j k) => lookAl r k r[j]?
  | _ => none
@[simp] theorem lookSl_frz {b : Bool} {d : D} : lookSl (some (.frz b d)) = some (.fz d) := rfl
@[simp] theorem lookSl_own {b : Bool} {c : Ct} : lookSl (some (.own b c)) = some (.ow c) := rfl
@[simp] theorem lookSl2_frz {b : Bool} {d : D} : lookSl2 r (some (.frz b d)) = some (.fz d) := rfl
@[simp] theorem lookSl2_own {b : Bool} {c : Ct} : lookSl2 r (some (.own b c)) = some (.ow c) := rfl
@[simp] theorem lookSl2_al {j k : Nat} : lookSl2 r (some (.al j k)) = lookAl r k r[j]? := rfl
@[simp] theorem lookAl_ll {b : Bool} {k : Nat} {rows : List (List D)} : lookAl r k (some (.own b (.ll rows))) = rows[k]?.map fun ds => .ow (.lst ds) := rfl
@[simp] theorem look_slot {i : Nat} : look r (.slot i) = lookSl r[i]? := by
  unfold look lookSl
  cases h : r[i]? with
  | none => simp [h]
  | some x => cases x <;> simp [h]
@[simp] theorem look2_slot {i : Nat} : look2 r (.slot i) = lookSl2 r r[i]? := by
  unfold look2 lookSl2
  cases h : r[i]? with
  | none => simp [h]
  | some x =>
    cases x with
    | al j k =>
      simp only [h]
      unfold lookAl
      cases h2 : r[j]? with
      | none => simp
      | some y => cases y with
        | own b c => cases c <;> simp
        | _ => simp
    | _ => simp [h]
@[simp, simp ↓] theorem E_oS {i : Nat} {Q : AV → Ro → Prop} : E X (oS i) r Q ↔ optP (lookSl2 r r[i]?) fun _ => Q (.slot i) r := by
  cases h : lookSl2 r r[i]? with
  | none => rw [E_no (by simp only [oS, look2_slot, h])]; simp
  | some x => rw [E_some (by simp only [oS, look2_slot, h]; rfl)]; simp
@[simp] theorem data_val {d : D} : (RV.val d).data = some d := rfl
@[simp] theorem data_lst {ds : List D} : (RV.new (.lst ds)).data = some (.list ds) := rfl
@[simp] theorem rdata_fz {d : D} : (Rs.fz d).data = some d := rfl
@[simp] theorem rdata_lst {ds : List D} : (Rs.ow (.lst ds)).data = some (.list ds) := rfl
@[simp, simp ↓] theorem E_oE {m : M RV} {Q : AV → Ro → Prop} : E X (oE m) r Q ↔ E X m r fun v r' => optP v.data fun d => Q (.val d) r' := by
  unfold oE
  rw [E_bind]
  constructor
  · intro h
    refine h.mono fun v r' h => ?_
    rw [E_of] at h
    obtain ⟨a, e, q⟩ := h
    cases hv : v.data with
    | none => rw [hv] at e; cases e
    | some d => rw [hv] at e; cases e; exact ⟨d, rfl, q⟩
  · intro h
    refine h.mono fun v r' h => ?_
    obtain ⟨d, e, q⟩ := h
    rw [E_of, e]
    exact ⟨_, rfl, q⟩
@[simp, simp ↓] theorem E_oL_nil {Q : List AV → Ro → Prop} : E X (oL []) r Q ↔ Q [] r := E_ret
@[simp, simp ↓] theorem E_oL_cons {m : M AV} {ms : List (M AV)} {Q : List AV → Ro → Prop} : E X (oL (m :: ms)) r Q ↔ E X m r fun a r1 => E X (oL ms) r1 fun as r2 => Q (a :: as) r2 := by
  show E X (m.bind fun a => (oL ms).bind fun as => M.ret (a :: as)) r Q ↔ _
  simp only [E_bind, E_ret]
@[simp] theorem looks2_nil : looks2 r [] = some [] := rfl
@[simp] theorem looks_nil : looks r [] = some [] := rfl
def consO : Option Rs → Option (List Rs) → Option (List Rs)
  | some x, some xs => some (x :: xs)
  | _, _ => none
@[simp] theorem consO_some {x : Rs} {xs : List Rs} : consO (some x) (some xs) = some (x :: xs) := rfl
@[simp] theorem consO_none {xs : Option (List Rs)} : consO none xs = none := by cases xs <;> rfl
@[simp] theorem looks2_cons {a : AV} {as : List AV} : looks2 r (a :: as) = consO (look2 r a) (looks2 r as) := by
  show (match look2 r a, looks2 r as with | some x, some xs => some (x :: xs) | _, _ => none) = _
  cases look2 r a <;> cases looks2 r as <;> rfl
@[simp] theorem looks_cons {a : AV} {as : List AV} : looks r (a :: as) = consO (look r a) (looks r as) := by
  show (match look r a, looks r as with | some x, some xs => some (x :: xs) | _, _ => none) = _
  cases look r a <;> cases looks r as <;> rfl
@[simp, simp ↓] theorem E_mFin {g : List Rs → Option RV} {as : List AV} {Q : RV → Ro → Prop} : E X (mFin g as) r Q ↔ optP (looks2 r as) fun xs => optP (g xs) fun v => Q v r := by
  cases h : looks2 r as with
  | none => rw [E_no (by simp only [mFin, h])]; simp
  | some xs => cases h2 : g xs with
    | none => rw [E_no (by simp [mFin, h, h2])]; simp [h2]
    | some v => rw [E_some (by simp only [mFin, h, h2]; rfl)]; simp [h2]
@[simp, simp ↓] theorem E_mOp {g : List Rs → Option RV} {os : List (M AV)} {Q : RV → Ro → Prop} : E X (mOp g os) r Q ↔ E X (oL os) r fun as r' => optP (looks2 r' as) fun xs => optP (g xs) fun v => Q v r' := by
  unfold mOp
  simp only [E_bind, E_mFin]
@[simp, simp ↓] theorem E_mOpL {g : List Rs → Option (List D)} {os : List (M AV)} {Q : List D → Ro → Prop} : E X (mOpL g os) r Q ↔ E X (oL os) r fun as r' => optP (looks2 r' as) fun xs => optP (g xs) fun v => Q v r' := by
  refine Iff.trans (E_bind (m := oL os)) ?_
  constructor
  · intro h
    refine h.mono fun as r' h => ?_
    obtain ⟨v, r2, e, q⟩ := h
    cases h2 : looks2 r' as with
    | none => simp [h2] at e
    | some xs => cases h3 : g xs with
      | none => simp [h2, h3] at e
      | some v => simp [h2, h3] at e; obtain ⟨rfl, rfl⟩ := e; exact ⟨xs, rfl, v, h3, q⟩
  · intro h
    refine h.mono fun as r' h => ?_
    obtain ⟨xs, e1, v, e2, q⟩ := h
    exact ⟨.ok v, r', by simp only [e1, e2]; rfl, q⟩
@[simp, simp ↓] theorem E_mTst {m : M RV} {Q : Bool → Ro → Prop} : E X (mTst m) r Q ↔ E X m r fun v r' => optP (boolV v) fun b => Q b r' := by
  unfold mTst
  simp only [E_bind, E_of]
@[simp] theorem boolV_b {b : Bool} : boolV (.val (.bool b)) = some b := rfl
@[simp, simp ↓] theorem E_mNot {m : M Bool} {Q : Bool → Ro → Prop} : E X (mNot m) r Q ↔ E X m r fun b r' => Q (!b) r' := by
  unfold mNot
  simp only [E_bind, E_ret]
@[simp, simp ↓] theorem E_mAnd {a b : M Bool} {Q : Bool → Ro → Prop} : E X (mAnd a b) r Q ↔ E X a r fun x r' => ifP x (E X b r' Q) (Q false r') := by
  unfold mAnd
  rw [E_bind]
  constructor <;> exact fun h => h.mono fun x r' h => by cases x <;> simpa using h
@[simp, simp ↓] theorem E_mOr {a b : M Bool} {Q : Bool → Ro → Prop} : E X (mOr a b) r Q ↔ E X a r fun x r' => ifP x (Q true r') (E X b r' Q) := by
  unfold mOr
  rw [E_bind]
  constructor <;> exact fun h => h.mono fun x r' h => by cases x <;> simpa using h
@[simp, simp ↓] theorem E_mFz {m : M RV} {Q : D → Ro → Prop} : E X (mFz m) r Q ↔ E X m r fun v r' => optP v.data fun d => Q d r' := by
  unfold mFz
  simp only [E_bind, E_of]
@[simp, simp ↓] theorem E_mRow {m : M RV} {Q : List D → Ro → Prop} : E X (mRow m) r Q ↔ E X m r fun v r' => optP v.data fun d => optP (rowOf d) fun xs => Q xs r' := by
  unfold mRow
  simp only [E_bind, E_of, E_mFz]
@[simp] theorem rowOf_l {xs : List D} : rowOf (.list xs) = some xs := rfl
@[simp] theorem rowOf_t {xs : List D} : rowOf (.tuple xs) = some xs := rfl
/-- a call -/
def backP (r : Ro) (as : List AV) (xs ys : List Rs) (k : Ro → Prop) : Prop := k (putBack r as xs ys)
@[simp, simp ↓] theorem backP_nil {r : Ro} {k : Ro → Prop} : backP r [] [] [] k ↔ k r := Iff.rfl
@[simp, simp ↓] theorem backP_val {d : D} {as : List AV} {x y : Rs} {xs ys : List Rs} {k : Ro → Prop} : backP r (.val d :: as) (x :: xs) (y :: ys) k ↔ backP r as xs ys k := by
  cases x <;> exact Iff.rfl
@[simp, simp ↓] theorem backP_fz {i : Nat} {d : D} {as : List AV} {y : Rs} {xs ys : List Rs} {k : Ro → Prop} : backP r (.slot i :: as) (.fz d :: xs) (y :: ys) k ↔ backP r as xs ys k := Iff.rfl
def put1P (i : Nat) (y : Rs) (r : Ro) (k : Ro → Prop) (x : Option Sl) (t : Tok k := .tok) : Prop := match x with
  | some (.own b _) => setP r i (backSl b y) k
  | _ => k r
@[simp, simp ↓] theorem put1P_own {i : Nat} {y : Rs} {b : Bool} {c : Ct} {k : Ro → Prop} : put1P i y r k (some (.own b c)) ↔ setP r i (backSl b y) k := Iff.rfl
@[simp, simp ↓] theorem backP_ow {i : Nat} {c : Ct} {as : List AV} {y : Rs} {xs ys : List Rs} {k : Ro → Prop} : backP r (.slot i :: as) (.ow c :: xs) (y :: ys) k ↔ put1P i y r (fun r' => backP r' as xs ys k) r[i]? := by
  show k (putBack (put1 r i y) as xs ys) ↔ _
  unfold put1 put1P
  cases r[i]? with
  | none => exact Iff.rfl
  | some x => cases x <;> exact Iff.rfl
def callP (o : Option (EO RV × List Rs)) (n : Nat) (k : EO RV → List Rs → Prop) (t : Tok k := .tok) : Prop := ∃ v ys, o = some (v, ys) ∧ ys.length = n ∧ k v ys
@[simp, simp ↓] theorem callP_ok {v : EO RV} {ys : List Rs} {n : Nat} {k : EO RV → List Rs → Prop} : callP (some (v, ys)) n k ↔ ys.length = n ∧ k v ys := ⟨fun ⟨a, b, e, q⟩ => (by cases e; exact q), fun q => ⟨v, ys, rfl, q⟩⟩
@[simp, simp ↓] theorem E_mCall {f : Sem} {ms : List (M AV)} {Q : RV → Ro → Prop} : E X (mCall f ms) r Q ↔ E X (oL ms) r fun as r' => optP (looks r' as) fun xs => (ownIx as xs).Nodup ∧ (ownIx as xs).all (noAl r') = true ∧ callP (f xs) xs.length fun o ys => backP r' as xs ys fun r' => endP X Q o r' := by
  refine Iff.trans (E_bind (m := oL ms)) ?_
  constructor
  · intro h
    refine h.mono fun as r' h => ?_
    obtain ⟨v, r2, e, q⟩ := h
    cases h2 : looks r' as with
    | none => simp [h2] at e
    | some xs =>
      simp only [h2] at e
      split at e
      · rename_i hc
        cases h3 : f xs with
        | none => simp [h3] at e
        | some p =>
          obtain ⟨o, ys⟩ := p
          simp only [h3] at e
          split at e
          · cases e
            exact ⟨xs, rfl, hc.1, hc.2, _, ys, h3, by assumption, q⟩
          · cases e
      · cases e
  · intro h
    refine h.mono fun as r' h => ?_
    obtain ⟨xs, e1, e2, e3, v, ys, e4, e5, q⟩ := h
    exact ⟨v, _, by simp only [e1, e4]; rw [if_pos ⟨e2, e3⟩, if_pos e5], q⟩
end
end DL
end

section
namespace DL
open PySem
theorem W_some {s : S} {r r' : Ro} {o : SO} {Q : SO → Ro → Prop} (h : s r = some (o, r')) : W s r Q ↔ Q o r' :=
  ⟨fun ⟨b, r2, e, q⟩ => (by rw [h] at e; cases e; exact q), fun q => ⟨o, r', h, q⟩⟩
theorem W_no {s : S} {r : Ro} {Q : SO → Ro → Prop} (h : s r = none) : W s r Q ↔ False :=
  ⟨fun ⟨b, r2, e, q⟩ => (by rw [h] at e; cases e), fun q => q.elim⟩
def thenP (b : S) (Q : SO → Ro → Prop) : SO → Ro → Prop
  | .nx, r => W b r Q
  | o, r => Q o r
section
variable {r : Ro} {Q : SO → Ro → Prop}
@[simp, simp ↓] theorem thenP_nx {b : S} : thenP b Q .nx r = W b r Q := rfl
@[simp, simp ↓] theorem thenP_ret {b : S} {v : RV} : thenP b Q (.ret v) r = Q (.ret v) r := rfl
@[simp, simp ↓] theorem thenP_rets {b : S} {i : Nat} : thenP b Q (.rets i) r = Q (.rets i) r := rfl
@[simp, simp ↓] theorem thenP_exc {b : S} {x : Exn} : thenP b Q (.exc x) r = Q (.exc x) r := rfl
@[simp, simp ↓] theorem thenP_brk {b : S} : thenP b Q .brk r = Q .brk r := rfl
@[simp, simp ↓] theorem thenP_cnt {b : S} : thenP b Q .cnt r = Q .cnt r := rfl
@[simp, simp ↓] theorem W_nx : W sNx r Q ↔ Q .nx r := W_some rfl
@[simp, simp ↓] theorem W_seq {a b : S} : W (sSeq a b) r Q ↔ W a r (thenP b Q) := by
  constructor
  · rintro ⟨o, r', e, q⟩
    unfold sSeq at e
    cases h : a r with
    | none => simp [h] at e
    | some p =>
      obtain ⟨o1, r1⟩ := p
      rw [h] at e
      refine ⟨o1, r1, h, ?_⟩
      cases o1 with
      | nx => exact ⟨o, r', e, q⟩
      | _ => simp only [Option.some.injEq, Prod.mk.injEq] at e; obtain ⟨rfl, rfl⟩ := e; exact q
  · rintro ⟨o1, r1, h, q⟩
    cases o1 with
    | nx =>
      obtain ⟨o, r', e, q⟩ := q
      exact ⟨o, r', by unfold sSeq; rw [h]; exact e, q⟩
    | _ => exact ⟨_, r1, by unfold sSeq; rw [h], q⟩
@[simp, simp ↓] theorem W_ex {α : Type} {m : M α} {k : α → S} : W (sEx m k) r Q ↔ E (fun x => Q (.exc x)) m r fun a r' => W (k a) r' Q := by
  cases hm : m r with
  | none => rw [E_no hm, W_no (by simp only [sEx, hm])]
  | some p =>
    obtain ⟨o, r1⟩ := p
    cases o with
    | ok a =>
      rw [E_some hm]
      unfold W sEx
      rw [hm]
    | exc x => rw [E_exc hm, W_some (by simp only [sEx, hm]; rfl)]
@[simp, simp ↓] theorem W_ret {m : M RV} : W (sRet m) r Q ↔ E (fun x => Q (.exc x)) m r fun v r' => Q (.ret v) r' := by
  refine Iff.trans (W_ex (m := m)) ?_
  constructor <;> exact fun h => h.mono fun v r' q => by
    first | exact (W_some rfl).mp q | exact (W_some rfl).mpr q
@[simp, simp ↓] theorem W_if {t : M Bool} {a b : S} : W (sIf t a b) r Q ↔ E (fun x => Q (.exc x)) t r fun x r' => ifP x (W a r' Q) (W b r' Q) := by
  refine Iff.trans (W_ex (m := t)) ?_
  constructor <;> exact fun h => h.mono fun v r' q => by cases v <;> simpa using q
@[simp, simp ↓] theorem W_drop {m : M RV} : W (sDrop m) r Q ↔ E (fun x => Q (.exc x)) m r fun _ r' => Q .nx r' := by
  refine Iff.trans (W_ex (m := m)) ?_
  simp only [W_nx]
def putP (i : Nat) (v : RV) (r : Ro) (Q : SO → Ro → Prop) (x : Option Sl) (t : Tok Q := .tok) : Prop := match x with
  | none => False
  | some x => putSl.pinnedB x = false ∧ match v with
    | .val d => setP r i (.frz false d) (Q .nx)
    | .new (.ll rows) => noAl r i = true ∧ setP r i (.own false (.ll rows)) (Q .nx)
    | .new c => setP r i (.own false c) (Q .nx)
@[simp, simp ↓] theorem putP_val {i : Nat} {d : D} {x : Sl} : putP i (.val d) r Q (some x) ↔ putSl.pinnedB x = false ∧ setP r i (.frz false d) (Q .nx) := Iff.rfl
@[simp, simp ↓] theorem putP_ll {i : Nat} {rows : List (List D)} {x : Sl} : putP i (.new (.ll rows)) r Q (some x) ↔ putSl.pinnedB x = false ∧ noAl r i = true ∧ setP r i (.own false (.ll rows)) (Q .nx) := Iff.rfl
@[simp, simp ↓] theorem putP_lst {i : Nat} {ds : List D} {x : Sl} : putP i (.new (.lst ds)) r Q (some x) ↔ putSl.pinnedB x = false ∧ setP r i (.own false (.lst ds)) (Q .nx) := Iff.rfl
@[simp, simp ↓] theorem putP_dK {i : Nat} {ds : List (Ky × D)} {x : Sl} : putP i (.new (.dK ds)) r Q (some x) ↔ putSl.pinnedB x = false ∧ setP r i (.own false (.dK ds)) (Q .nx) := Iff.rfl
@[simp] theorem pinned_frz {b : Bool} {d : D} : putSl.pinnedB (.frz b d) = b := rfl
@[simp] theorem pinned_own {b : Bool} {c : Ct} : putSl.pinnedB (.own b c) = b := rfl
@[simp] theorem pinned_non : putSl.pinnedB .non = false := rfl
@[simp] theorem pinned_al {j k : Nat} : putSl.pinnedB (.al j k) = false := rfl
@[simp, simp ↓] theorem W_put {i : Nat} {v : RV} : W (putSl i v) r Q ↔ putP i v r Q r[i]? := by
  cases h : r[i]? with
  | none => rw [W_no (by simp [putSl, h])]; exact Iff.rfl
  | some x =>
    cases hp : putSl.pinnedB x with
    | true => rw [W_no (by simp [putSl, h, hp])]; simp [putP, hp, setP]
    | false =>
      cases v with
      | val d => rw [W_some (by simp [putSl, h, hp]; exact ⟨rfl, rfl⟩)]; simp [putP, hp, setP]
      | new c => cases c with
        | ll rows =>
          cases hn : noAl r i with
          | true => rw [W_some (by simp [putSl, h, hp, hn]; exact ⟨rfl, rfl⟩)]; simp [putP, hp, hn, setP]
          | false => rw [W_no (by simp [putSl, h, hp, hn])]; simp [putP, hp, hn, setP]
        | _ => rw [W_some (by simp [putSl, h, hp]; exact ⟨rfl, rfl⟩)]; simp [putP, hp, setP]
@[simp, simp ↓] theorem W_setN {i : Nat} {d : D} : W (setN i d) r Q ↔ putP i (.val d) r Q r[i]? := W_put
@[simp, simp ↓] theorem W_set {i : Nat} {m : M RV} : W (sSet i m) r Q ↔ E (fun x => Q (.exc x)) m r fun v r' => putP i v r' Q r'[i]? := by
  refine Iff.trans (W_ex (m := m)) ?_
  simp only [W_put]
@[simp, simp ↓] theorem W_sets_nil : W (sets [] []) r Q ↔ Q .nx r := W_nx
@[simp, simp ↓] theorem W_sets_cons {f : D → S} {fs : List (D → S)} {d : D} {ds : List D} : W (sets (f :: fs) (d :: ds)) r Q ↔ W (f d) r (thenP (sets fs ds) Q) := W_seq
@[simp, simp ↓] theorem W_setT {fs : List (D → S)} {ds : List D} : W (setT fs (.tuple ds)) r Q ↔ W (sets fs ds) r Q := Iff.rfl
@[simp, simp ↓] theorem W_par {i j : Nat} {m n : M RV} : W (sPar i j m n) r Q ↔ E (fun x => Q (.exc x)) m r fun v r1 => optP v.data fun d => E (fun x => Q (.exc x)) n r1 fun u r2 => optP u.data fun e => putP i (.val d) r2 (thenP (putSl j (.val e)) Q) r2[i]? := by
  unfold sPar
  simp only [W_ex, E_mFz, W_seq, W_put]
def loopP (I : Ro → Prop) (Q : SO → Ro → Prop) : SO → Ro → Prop
  | .nx, r => I r
  | .cnt, r => I r
  | .brk, r => Q .nx r
  | o, r => Q o r
@[simp, simp ↓] theorem loopP_nx {I : Ro → Prop} : loopP I Q .nx r = I r := rfl
@[simp, simp ↓] theorem loopP_cnt {I : Ro → Prop} : loopP I Q .cnt r = I r := rfl
@[simp, simp ↓] theorem loopP_brk {I : Ro → Prop} : loopP I Q .brk r = Q .nx r := rfl
@[simp, simp ↓] theorem loopP_rets {I : Ro → Prop} {i : Nat} : loopP I Q (.rets i) r = Q (.rets i) r := rfl
@[simp, simp ↓] theorem loopP_exc {I : Ro → Prop} {x : Exn} : loopP I Q (.exc x) r = Q (.exc x) r := rfl
@[simp, simp ↓] theorem loopP_ret {I : Ro → Prop} {v : RV} : loopP I Q (.ret v) r = Q (.ret v) r := rfl
def nxP (body : S) (P : SO → Ro → Prop) : SO → Ro → Prop
  | .nx, r => W body r P
  | _, _ => False
@[simp, simp ↓] theorem nxP_nx {b : S} {P : SO → Ro → Prop} : nxP b P .nx r = W b r P := rfl
theorem forS_nil {set : D → S} {body : S} : Q .nx r → W (forS set body []) r Q := fun h => W_nx.mpr h
theorem forS_cons {set : D → S} {body : S} {d : D} {ds : List D} (h : W (set d) r (nxP body (loopP (fun r => W (forS set body ds) r Q) Q))) : W (forS set body (d :: ds)) r Q := by
  obtain ⟨o, r1, e1, h⟩ := h
  cases o with
  | nx =>
    obtain ⟨o, r2, e2, h⟩ := h
    cases o with
    | nx =>
      obtain ⟨o, r3, e3, q⟩ := h
      exact ⟨o, r3, by unfold forS; simp only [e1, e2]; exact e3, q⟩
    | cnt =>
      obtain ⟨o, r3, e3, q⟩ := h
      exact ⟨o, r3, by unfold forS; simp only [e1, e2]; exact e3, q⟩
    | brk => exact ⟨.nx, r2, by unfold forS; simp only [e1, e2], h⟩
    | ret v => exact ⟨.ret v, r2, by unfold forS; simp only [e1, e2], h⟩
    | rets i => exact ⟨.rets i, r2, by unfold forS; simp only [e1, e2], h⟩
    | exc x => exact ⟨.exc x, r2, by unfold forS; simp only [e1, e2], h⟩
  | _ => exact h.elim
/-- a for loop by an invariant: I k before the k-th item -/
theorem forS_inv {set : D → S} {body : S} (I : Nat → Ro → Prop) : ∀ (ds : List D) (n : Nat) (r : Ro), I n r →
    (∀ k d r, ds[k]? = some d → I (n + k) r → W (set d) r (nxP body (loopP (I (n + k + 1)) Q))) → (∀ r, I (n + ds.length) r → Q .nx r) → W (forS set body ds) r Q := by
  intro ds
  induction ds with
  | nil => intro n r h _ hq; exact forS_nil (hq _ h)
  | cons d ds ih =>
    intro n r h step hq
    refine forS_cons ((step 0 d r rfl h).mono fun o r1 h1 => ?_)
    cases o with
    | nx =>
      refine W.mono h1 fun o r2 h2 => ?_
      have go : I (n + 1) r2 → W (forS set body ds) r2 Q := fun h2 => ih (n + 1) r2 h2 (fun k d r e h => by
        have := step (k + 1) d r e (by rw [show n + (k + 1) = n + 1 + k by omega]; exact h)
        rw [show n + (k + 1) + 1 = n + 1 + k + 1 by omega] at this
        exact this) fun r h => hq r (by rw [show n + (d :: ds).length = n + 1 + ds.length by simp; omega]; exact h)
      cases o with
      | nx => exact go h2
      | cnt => exact go h2
      | brk => exact h2
      | ret v => exact h2
      | rets i => exact h2
      | exc x => exact h2
    | _ => exact h1.elim
@[simp, simp ↓] theorem W_for {mi : M (List D)} {set : D → S} {body : S} : W (sFor mi set body) r Q ↔ E (fun x => Q (.exc x)) mi r fun ds r' => W (forS set body ds) r' Q := W_ex
/-- range's items -/
theorem rng0_get {n : Int} {k : Nat} {d : D} (h : (rng 0 n)[k]? = some d) : d = .int k ∧ (k : Int) < n := by
  unfold rng at h
  rw [List.getElem?_map] at h
  cases h2 : (List.range (n - 0).toNat)[k]? with
  | none => rw [h2] at h; cases h
  | some j =>
    rw [h2] at h
    obtain ⟨h3, h4⟩ := List.getElem?_eq_some_iff.mp h2
    simp at h3 h4
    subst h4
    cases h
    exact ⟨by simp, by omega⟩
theorem rng0_len {n : Int} : (rng 0 n).length = n.toNat := by simp [rng]
def updK (r : Ro) (i : Nat) (ds : List D) (k : Ro → Prop) : Prop := k (updSl r i ds)
def updP (i : Nat) (ds : List D) (r : Ro) (K : Ro → Prop) (x : Option Sl) (t : Tok K := .tok) : Prop := match x with
  | some (.own b _) => setP r i (.own b (.lst ds)) K
  | some (.al j k) => match r[j]? with
    | some (.own b (.ll rows)) => setP r j (.own b (.ll (rows.set k ds))) K
    | _ => K r
  | _ => K r
def updAl (j k : Nat) (ds : List D) (r : Ro) (K : Ro → Prop) (x : Option Sl) (t : Tok K := .tok) : Prop := match x with
  | some (.own b (.ll rows)) => setP r j (.own b (.ll (rows.set k ds))) K
  | _ => K r
@[simp, simp ↓] theorem updP_own {i : Nat} {ds : List D} {b : Bool} {c : Ct} {K : Ro → Prop} : updP i ds r K (some (.own b c)) ↔ setP r i (.own b (.lst ds)) K := Iff.rfl
@[simp, simp ↓] theorem updAl_ll {j k : Nat} {ds : List D} {b : Bool} {rows : List (List D)} {K : Ro → Prop} : updAl j k ds r K (some (.own b (.ll rows))) ↔ setP r j (.own b (.ll (rows.set k ds))) K := Iff.rfl
@[simp, simp ↓] theorem updP_al {i j k : Nat} {ds : List D} {K : Ro → Prop} : updP i ds r K (some (.al j k)) ↔ updAl j k ds r K r[j]? := Iff.rfl
@[simp, simp ↓] theorem updK_def {i : Nat} {ds : List D} {K : Ro → Prop} : updK r i ds K ↔ updP i ds r K r[i]? := by
  unfold updK updSl updP
  cases r[i]? with
  | none => exact Iff.rfl
  | some x => cases x with
    | al j k =>
      simp only []
      cases r[j]? with
      | none => exact Iff.rfl
      | some y => cases y with
        | own b c => cases c <;> exact Iff.rfl
        | _ => exact Iff.rfl
    | _ => exact Iff.rfl
def lstO : Option Rs → Option (List D)
  | some (.ow (.lst ds)) => some ds
  | _ => none
@[simp] theorem lstO_lst {ds : List D} : lstO (some (.ow (.lst ds))) = some ds := rfl
@[simp] theorem listAt_def {i : Nat} : listAt r i = lstO (lookSl2 r r[i]?) := by
  unfold listAt
  rw [look2_slot]
  rfl
def mutP (X : Exn → Ro → Prop) (g : List D → List D → Option (List D × D)) (i : Nat) (ms : List (M AV)) (Q : RV → Ro → Prop) (r : Ro) (x : Option (List D)) (t : Tok Q := .tok) (u : Tok X := .tok) (w : Tok ms := .tok) : Prop := match x with
  | none => False
  | some _ => E X (oL ms) r fun as r' => optP (listAt r' i) fun ds => optP (looks2 r' as) fun xs => optP (dataAll xs) fun es => optP (g ds es) fun p => updK r' i p.1 (Q (.val p.2))
@[simp, simp ↓] theorem mutP_some {X : Exn → Ro → Prop} {g : List D → List D → Option (List D × D)} {i : Nat} {ms : List (M AV)} {Q : RV → Ro → Prop} {ds : List D} : mutP X g i ms Q r (some ds) ↔ E X (oL ms) r fun as r' => optP (listAt r' i) fun ds => optP (looks2 r' as) fun xs => optP (dataAll xs) fun es => optP (g ds es) fun p => updK r' i p.1 (Q (.val p.2)) := Iff.rfl
@[simp, simp ↓] theorem E_mMut {X : Exn → Ro → Prop} {g : List D → List D → Option (List D × D)} {i : Nat} {ms : List (M AV)} {Q : RV → Ro → Prop} :
    E X (mMut g i ms) r Q ↔ mutP X g i ms Q r (listAt r i) := by
  cases h : listAt r i with
  | none => rw [E_no (by simp only [mMut, h])]; exact Iff.rfl
  | some ds0 =>
    rw [mutP_some]
    have e0 : ∀ f : List AV → M RV, (mMut g i ms r = (oL ms).bind f r) → (E X (mMut g i ms) r Q ↔ E X ((oL ms).bind f) r Q) := fun f e => by
      unfold E
      rw [e]
    refine (e0 _ (by unfold mMut; rw [h]; rfl)).trans ?_
    refine Iff.trans (E_bind (m := oL ms)) ?_
    constructor
    · intro h
      refine h.mono fun as r' h => ?_
      obtain ⟨v, r2, e, q⟩ := h
      cases h2 : listAt r' i with
      | none => simp only [h2] at e; cases e
      | some ds =>
        cases h3 : looks2 r' as with
        | none => simp only [h2, h3] at e; cases e
        | some xs =>
          cases h4 : dataAll xs with
          | none => simp only [h2, h3, h4] at e; cases e
          | some es =>
            cases h5 : g ds es with
            | none => simp only [h2, h3, h4, h5] at e; cases e
            | some p =>
              simp only [h2, h3, h4, h5] at e
              cases e
              exact ⟨ds, rfl, xs, rfl, es, h4, p, h5, q⟩
    · intro h
      refine h.mono fun as r' h => ?_
      obtain ⟨ds, h2, xs, h3, es, h4, p, h5, q⟩ := h
      exact ⟨.ok _, _, by simp only [h2, h3, h4, h5]; rfl, q⟩
def intO : D → Option Int
  | .int n => some n
  | _ => none
@[simp] theorem intO_i {n : Int} : intO (.int n) = some n := rfl
def subP (i : Nat) (d : D) (mi : M AV) (Q : SO → Ro → Prop) (r : Ro) (x : Option (List D)) (t : Tok Q := .tok) (u : Tok mi := .tok) : Prop := match x with
  | none => False
  | some _ => E (fun x => Q (.exc x)) mi r fun a r2 => optP (listAt r2 i) fun ds => optP (((look2 r2 a).bind Rs.data).bind intO) fun n => optP (ixD ds.length n) fun k => updK r2 i (ds.set k d) (Q .nx)
@[simp, simp ↓] theorem subP_some {i : Nat} {d : D} {mi : M AV} {ds : List D} : subP i d mi Q r (some ds) ↔ E (fun x => Q (.exc x)) mi r fun a r2 => optP (listAt r2 i) fun ds => optP (((look2 r2 a).bind Rs.data).bind intO) fun n => optP (ixD ds.length n) fun k => updK r2 i (ds.set k d) (Q .nx) := Iff.rfl
theorem W_congr {s s' : S} (h : s r = s' r) : W s r Q ↔ W s' r Q := by
  unfold W
  rw [h]
def subIn (i : Nat) (d : D) (a : AV) : S := fun r => match listAt r i, (look2 r a).bind Rs.data with
  | some ds, some (.int n) => (ixD ds.length n).map fun k => (.nx, updSl r i (ds.set k d))
  | _, _ => none
def subS (i : Nat) (d : D) (mi : M AV) : S := fun r => match listAt r i with
  | none => none
  | some _ => sEx mi (subIn i d) r
theorem W_subS {i : Nat} {d : D} {mi : M AV} : W (subS i d mi) r Q ↔ subP i d mi Q r (listAt r i) := by
  cases h : listAt r i with
  | none => rw [W_no (by simp only [subS, h])]; exact Iff.rfl
  | some ds0 =>
    refine (W_congr (s' := sEx mi (subIn i d)) (by simp only [subS, h])).trans ?_
    rw [subP_some]
    refine Iff.trans (W_ex (m := mi)) ?_
    constructor
    · intro h
      refine h.mono fun a r2 h => ?_
      obtain ⟨o, r3, e, q⟩ := h
      cases h2 : listAt r2 i with
      | none => simp only [subIn, h2] at e; cases e
      | some ds =>
        cases h3 : (look2 r2 a).bind Rs.data with
        | none => simp only [subIn, h2, h3] at e; cases e
        | some x =>
          cases x with
          | int n =>
            cases h4 : ixD ds.length n with
            | none => simp only [subIn, h2, h3, h4] at e; cases e
            | some k =>
              simp only [subIn, h2, h3, h4] at e
              cases e
              exact ⟨ds, rfl, n, rfl, k, h4, q⟩
          | _ => simp only [subIn, h2, h3] at e; cases e
    · intro h
      refine h.mono fun a r2 h => ?_
      obtain ⟨ds, h4, n, h5, k, h6, q⟩ := h
      cases h3 : (look2 r2 a).bind Rs.data with
      | none => rw [h3] at h5; cases h5
      | some x =>
        cases x with
        | int n => rw [h3] at h5; cases h5; exact ⟨.nx, updSl r2 i (ds.set k d), by simp only [subIn, h4, h3, h6]; rfl, q⟩
        | _ => rw [h3] at h5; cases h5
@[simp, simp ↓] theorem W_sub {i : Nat} {me : M RV} {mi : M AV} : W (sSub i me mi) r Q ↔ E (fun x => Q (.exc x)) me r fun v r1 => optP v.data fun d => subP i d mi Q r1 (listAt r1 i) := by
  refine Iff.trans (W_ex (m := mFz me) (k := fun d => subS i d mi)) ?_
  simp only [E_mFz, W_subS]
theorem W_al {i j : Nat} {mi : M AV} {b : Bool} {rows : List (List D)} (h0 : r[j]? = some (.own b (.ll rows))) : (E (fun x => Q (.exc x)) mi r fun a r2 => optP (((look2 r2 a).bind Rs.data).bind intO) fun n => ∃ b rows x, r2[j]? = some (.own b (.ll rows)) ∧ r2[i]? = some x ∧ i ≠ j ∧ putSl.pinnedB x = false ∧ optP (ixD rows.length n) fun k => setP r2 i (.al j k) (Q .nx)) → W (sAl i j mi) r Q := fun ⟨a, r2, e2, q⟩ => by
  cases a with
  | ok a =>
    obtain ⟨n, h2, b2, rows2, x, h1, h4, h5, h6, k, h3, q⟩ := q
    refine ⟨.nx, _, ?_, q⟩
    unfold sAl
    cases h7 : (look2 r2 a).bind Rs.data with
    | none => rw [h7] at h2; cases h2
    | some d => cases d with
      | int n' =>
        rw [h7] at h2
        cases h2
        simp only [h0, sEx, e2, h1, h7, h4]
        rw [if_pos ⟨h5, h6⟩, h3]
        rfl
      | _ => rw [h7] at h2; cases h2
  | exc x =>
    refine ⟨.exc x, r2, ?_, q⟩
    unfold sAl
    simp only [h0, sEx, e2]
def handP (xs : List Rs) (P : EO RV → List Rs → Prop) (i : Nat) (r : Ro) (x : Option Sl) (t : Tok P := .tok) : Prop := match x with
  | some (.own false c) => allFz xs = true ∧ setP r i .non fun r' => P (.ok (.new c)) (outs xs 0 r')
  | _ => False
@[simp, simp ↓] theorem handP_own {xs : List Rs} {P : EO RV → List Rs → Prop} {i : Nat} {c : Ct} : handP xs P i r (some (.own false c)) ↔ allFz xs = true ∧ setP r i .non fun r' => P (.ok (.new c)) (outs xs 0 r') := Iff.rfl
@[simp] theorem allFz_nil : allFz [] = true := rfl
@[simp] theorem allFz_cons {d : D} {xs : List Rs} : allFz (.fz d :: xs) = allFz xs := rfl
def retsP (i : Nat) (Q : SO → Ro → Prop) (r : Ro) (x : Option Sl) (t : Tok Q := .tok) : Prop := match x with
  | some (.own false c) => Q (.rets i) r
  | some (.frz _ d) => Q (.ret (.val d)) r
  | x => rdP i r (fun v r' => Q (.ret v) r') x
@[simp, simp ↓] theorem retsP_own {i : Nat} {c : Ct} : retsP i Q r (some (.own false c)) ↔ Q (.rets i) r := Iff.rfl
@[simp, simp ↓] theorem retsP_frz {i : Nat} {b : Bool} {d : D} : retsP i Q r (some (.frz b d)) ↔ Q (.ret (.val d)) r := Iff.rfl
@[simp, simp ↓] theorem W_retS {i : Nat} : W (sRetS i) r Q ↔ retsP i Q r r[i]? := by
  have other : sRetS i r = sRet (mRd i) r → (W (sRetS i) r Q ↔ rdP i r (fun v r' => Q (.ret v) r') r[i]?) := fun e =>
    (W_congr e).trans (W_ret.trans E_mRd)
  cases q : r[i]? with
  | none => rw [other (by unfold sRetS; rw [q]), q]; exact Iff.rfl
  | some x =>
    cases x with
    | own b ct =>
      cases b with
      | false => rw [W_some (by unfold sRetS; rw [q])]; exact Iff.rfl
      | true => rw [other (by unfold sRetS; rw [q]), q]; exact Iff.rfl
    | _ => rw [other (by unfold sRetS; rw [q]), q]; exact Iff.rfl
def retP (xs : List Rs) (P : EO RV → List Rs → Prop) : SO → Ro → Prop
  | .rets i, r => handP xs P i r r[i]?
  | .ret v, r => P (.ok v) (outs xs 0 r)
  | .nx, r => P (.ok (.val .none)) (outs xs 0 r)
  | .exc x, r => P (.exc x) (outs xs 0 r)
  | _, _ => False
@[simp, simp ↓] theorem retP_ret {xs : List Rs} {P : EO RV → List Rs → Prop} {v : RV} : retP xs P (.ret v) r = P (.ok v) (outs xs 0 r) := rfl
@[simp, simp ↓] theorem retP_rets {xs : List Rs} {P : EO RV → List Rs → Prop} {i : Nat} : retP xs P (.rets i) r = handP xs P i r r[i]? := rfl
@[simp, simp ↓] theorem retP_nx {xs : List Rs} {P : EO RV → List Rs → Prop} : retP xs P .nx r = P (.ok (.val .none)) (outs xs 0 r) := rfl
@[simp, simp ↓] theorem retP_exc {xs : List Rs} {P : EO RV → List Rs → Prop} {x : Exn} : retP xs P (.exc x) r = P (.exc x) (outs xs 0 r) := rfl
theorem oks_def {n N : Nat} {body : S} {xs : List Rs} {P : EO RV → List Rs → Prop} (hn : xs.length = n) (h : W body (xs.map toSl ++ List.replicate (N - n) .non) (retP xs P)) : Oks (defSem n N body) xs P := by
  obtain ⟨o, r, e, q⟩ := h
  unfold Oks defSem
  rw [if_pos hn, e]
  cases o with
  | ret v => exact ⟨_, _, rfl, q⟩
  | rets i =>
    change handP xs P i r r[i]? at q
    show ∃ o ys, handOn xs i r = some (o, ys) ∧ P o ys
    unfold handOn
    cases h : r[i]? with
    | none => rw [h] at q; exact q.elim
    | some x =>
      rw [h] at q
      cases x with
      | own b c =>
        cases b with
        | false => simp only [q.1, if_true]; exact ⟨_, _, rfl, q.2⟩
        | true => exact q.elim
      | _ => exact q.elim
  | nx => exact ⟨_, _, rfl, q⟩
  | exc x => exact ⟨_, _, rfl, q⟩
  | _ => exact q.elim
end
end DL
end

section
namespace DL
open PySem
/-- the product is no monster -/
def SmM (a b : Int) : Prop := a.natAbs.log2 + b.natAbs.log2 < 1000000
instance (a b : Int) : Decidable (SmM a b) := inferInstanceAs (Decidable (_ < _))
theorem log2_small {a : Int} (h : -(2 ^ 200) ≤ a ∧ a ≤ 2 ^ 200) : a.natAbs.log2 ≤ 200 := by
  by_cases h0 : a.natAbs = 0
  · rw [h0]; decide
  · have : a.natAbs < 2 ^ 201 := by omega
    exact Nat.le_of_lt_succ ((Nat.log2_lt h0).mpr this)
theorem smM_of {a b : Int} (ha : -(2 ^ 200) ≤ a ∧ a ≤ 2 ^ 200) (hb : -(2 ^ 200) ≤ b ∧ b ≤ 2 ^ 200) : SmM a b := by
  have h1 := log2_small ha
  have h2 := log2_small hb
  unfold SmM
  omega
def SmD (j : Int) : Prop := j.natAbs.log2 < 9000
instance (a : Int) : Decidable (SmD a) := inferInstanceAs (Decidable (_ < _))
theorem smD_of {b : Int} (hb : -(2 ^ 200) ≤ b ∧ b ≤ 2 ^ 200) : SmD b := by
  have h2 := log2_small hb
  unfold SmD
  omega
section
variable {a b : Int}
@[simp] theorem gAdd_ii : gAdd [.fz (.int a), .fz (.int b)] = some (.val (.int (a + b))) := rfl
@[simp] theorem gSub_ii : gSub [.fz (.int a), .fz (.int b)] = some (.val (.int (a - b))) := rfl
@[simp] theorem gMul_ii : gMul [.fz (.int a), .fz (.int b)] = if SmM a b then some (.val (.int (a * b))) else none := rfl
@[simp] theorem gMod_ii : gMod [.fz (.int a), .fz (.int b)] = if 0 < b then some (.val (.int (a % b))) else none := by
  show Option.map _ (if 0 < b then some _ else none) = _
  split <;> rfl
@[simp] theorem gDiv_ii : gDiv [.fz (.int a), .fz (.int b)] = if 0 < b ∧ SmD b then some (.val (.int (a / b))) else none := by
  show Option.map _ (if 0 < b ∧ SmD b then some _ else none) = _
  split <;> rfl
@[simp] theorem gPow_ii : gPow [.fz (.int a), .fz (.int b)] = if 0 ≤ b ∧ b ≤ 1000000 ∧ a.natAbs < 2 ^ 64 then some (.val (.int (a ^ b.toNat))) else none := by
  show Option.map _ (if 0 ≤ b ∧ b ≤ 1000000 ∧ a.natAbs < 2 ^ 64 then some _ else none) = _
  split <;> rfl
@[simp] theorem gLt_ii : gLt [.fz (.int a), .fz (.int b)] = some (.val (.bool (decide (a < b)))) := rfl
@[simp] theorem gGt_ii : gGt [.fz (.int a), .fz (.int b)] = some (.val (.bool (decide (b < a)))) := rfl
@[simp] theorem gGe_ii : gGe [.fz (.int a), .fz (.int b)] = some (.val (.bool (decide (b ≤ a)))) := rfl
theorem eqv_ii : PyData.eqv (.int a) (.int b) = (a == b) := by unfold PyData.eqv; rfl
theorem okD_i : okD (.int a) = true := by
  unfold okD PyData.canLay0 PyData.depth
  rfl
@[simp] theorem gEq_ii : gEq [.fz (.int a), .fz (.int b)] = some (.val (.bool (decide (a = b)))) := by
  show (if okD (.int a) && okD (.int b) then some (RV.val (.bool (PyData.eqv (.int a) (.int b)))) else none) = _
  rw [okD_i, okD_i, eqv_ii]
  rfl
@[simp] theorem gNe_ii : gNe [.fz (.int a), .fz (.int b)] = some (.val (.bool (!decide (a = b)))) := by
  show (if okD (.int a) && okD (.int b) then some (RV.val (.bool (!PyData.eqv (.int a) (.int b)))) else none) = _
  rw [okD_i, okD_i, eqv_ii]
  rfl
@[simp] theorem gAbs_i : gAbs [.fz (.int a)] = some (.val (.int (if a < 0 then -a else a))) := rfl
@[simp] theorem gMax2_ii : gMax2 [.fz (.int a), .fz (.int b)] = some (.val (.int (if b > a then b else a))) := rfl
@[simp] theorem gMin2_ii : gMin2 [.fz (.int a), .fz (.int b)] = some (.val (.int (if b < a then b else a))) := rfl
end
section
variable {xs ys : List D} {i : Int} {d : D}
@[simp] theorem gLen_t : gLen [.fz (.tuple xs)] = some (.val (.int xs.length)) := rfl
@[simp] theorem gLen_l : gLen [.fz (.list xs)] = some (.val (.int xs.length)) := rfl
@[simp] theorem gLen_o : gLen [.ow (.lst xs)] = some (.val (.int xs.length)) := rfl
@[simp] theorem gLen_dK {kvs : List (Ky × D)} : gLen [.ow (.dK kvs)] = some (.val (.int kvs.length)) := rfl
@[simp] theorem gLen_ll {rows : List (List D)} : gLen [.ow (.ll rows)] = some (.val (.int rows.length)) := rfl
def ixP (xs : List D) (i : Int) : Option D := (ixD xs.length i).bind fun j => xs[j]?
@[simp] theorem gIx_t : gIx [.fz (.tuple xs), .fz (.int i)] = (ixP xs i).map .val := rfl
@[simp] theorem gIx_l : gIx [.fz (.list xs), .fz (.int i)] = (ixP xs i).map .val := rfl
@[simp] theorem gIx_o : gIx [.ow (.lst xs), .fz (.int i)] = (ixP xs i).map .val := rfl
@[simp] theorem ixP_0 : ixP (d :: xs) 0 = some d := by
  unfold ixP ixD
  simp
theorem ixP_nat {k : Nat} {d : D} (h : xs[k]? = some d) : ixP xs (k : Int) = some d := by
  have := (List.getElem?_eq_some_iff.mp h).1
  unfold ixP ixD
  rw [if_pos (by omega), if_pos (by omega)]
  simpa using h
theorem ixP_pos {i : Int} {d : D} (h0 : 0 ≤ i) (h : xs[i.toNat]? = some d) : ixP xs i = some d := by
  have := ixP_nat h
  rwa [Int.toNat_of_nonneg h0] at this
@[simp] theorem ixP_1 {a : D} : ixP (a :: d :: xs) 1 = some d := ixP_nat (k := 1) rfl
@[simp] theorem ixP_2 {a b : D} : ixP (a :: b :: d :: xs) 2 = some d := ixP_nat (k := 2) rfl
@[simp] theorem gTup_0 : gTup [] = some (.val (.tuple [])) := rfl
@[simp] theorem gTup_1 {a : D} : gTup [.fz a] = some (.val (.tuple [a])) := rfl
@[simp] theorem gTup_2 {a b : D} : gTup [.fz a, .fz b] = some (.val (.tuple [a, b])) := rfl
@[simp] theorem gTup_3 {a b c : D} : gTup [.fz a, .fz b, .fz c] = some (.val (.tuple [a, b, c])) := rfl
@[simp] theorem gLst_0 : gLst [] = some (.new (.lst [])) := rfl
@[simp] theorem gLst_1 {a : D} : gLst [.fz a] = some (.new (.lst [a])) := rfl
@[simp] theorem gLst_2 {a b : D} : gLst [.fz a, .fz b] = some (.new (.lst [a, b])) := rfl
@[simp] theorem gLst_3 {a b c : D} : gLst [.fz a, .fz b, .fz c] = some (.new (.lst [a, b, c])) := rfl
@[simp] theorem gTuple_l : gTuple [.fz (.list xs)] = some (.val (.tuple xs)) := rfl
@[simp] theorem gTuple_o : gTuple [.ow (.lst xs)] = some (.val (.tuple xs)) := rfl
@[simp] theorem gTuple_t : gTuple [.fz (.tuple xs)] = some (.val (.tuple xs)) := rfl
@[simp] theorem gAdd_tt : gAdd [.fz (.tuple xs), .fz (.tuple ys)] = if xs.length + ys.length ≤ lineD then some (.val (.tuple (xs ++ ys))) else none := rfl
@[simp] theorem gRng1_i : gRng1 [.fz (.int i)] = if okR i = true then some (rng 0 i) else none := rfl
@[simp] theorem okR_iff : okR i = true ↔ -(2 ^ 62) ≤ i ∧ i < 2 ^ 62 := by simp [okR]
@[simp] theorem dataAll_nil : dataAll [] = some [] := rfl
@[simp] theorem dataAll_cons {as : List Rs} : dataAll (.fz d :: as) = (dataAll as).map (d :: ·) := rfl
@[simp] theorem gAppend_1 : gAppend xs [d] = if xs.length < lineD then some (xs ++ [d], .none) else none := rfl
@[simp] theorem gInsert_2 : gInsert xs [.int i, d] = if xs.length < lineD ∧ 0 ≤ i ∧ i < 2 ^ 63 then some (xs.take i.toNat ++ [d] ++ xs.drop i.toNat, .none) else none := rfl
@[simp] theorem ixD_0 {n : Nat} : ixD n 0 = if 0 < n then some 0 else none := by
  unfold ixD
  by_cases h : 0 < n
  · rw [if_pos (by omega), if_pos (by omega), if_pos h]; rfl
  · rw [if_pos (by omega), if_neg (by omega), if_neg h]
theorem ixD_nat {n k : Nat} (h : k < n) : ixD n (k : Int) = some k := by
  unfold ixD
  rw [if_pos (by omega), if_pos (by omega)]; rfl
@[simp] theorem ixD_1 {n : Nat} : ixD (n + 2) 1 = some 1 := ixD_nat (k := 1) (by omega)
@[simp] theorem ixD_2 {n : Nat} : ixD (n + 3) 2 = some 2 := ixD_nat (k := 2) (by omega)
end
@[simp] theorem ownIx_nil : ownIx [] [] = [] := rfl
@[simp] theorem ownIx_val {d : D} {as : List AV} {x : Rs} {xs : List Rs} : ownIx (.val d :: as) (x :: xs) = ownIx as xs := rfl
@[simp] theorem ownIx_fz {i : Nat} {d : D} {as : List AV} {xs : List Rs} : ownIx (.slot i :: as) (.fz d :: xs) = ownIx as xs := rfl
@[simp] theorem ownIx_ow {i : Nat} {c : Ct} {as : List AV} {xs : List Rs} : ownIx (.slot i :: as) (.ow c :: xs) = i :: ownIx as xs := rfl
@[simp] theorem backSl_ow {b : Bool} {c : Ct} : backSl b (.ow c) = .own b c := rfl
@[simp] theorem backSl_fz {b : Bool} {d : D} : backSl b (.fz d) = .frz b d := rfl
@[simp] theorem toSl_fz {d : D} : toSl (.fz d) = .frz false d := rfl
@[simp] theorem toSl_ow {c : Ct} : toSl (.ow c) = .own true c := rfl
@[simp] theorem outs_nil {k : Nat} {r : Ro} : outs [] k r = [] := rfl
@[simp] theorem outs_fz {d : D} {xs : List Rs} {k : Nat} {r : Ro} : outs (.fz d :: xs) k r = .fz d :: outs xs (k + 1) r := rfl
def outP (c : Ct) : Option Sl → Rs
  | some (.own _ c') => .ow c'
  | some (.frz _ d) => .fz d
  | _ => .ow c
@[simp] theorem outP_own {c c' : Ct} {b : Bool} : outP c (some (.own b c')) = .ow c' := rfl
@[simp] theorem outP_frz {c : Ct} {d : D} {b : Bool} : outP c (some (.frz b d)) = .fz d := rfl
@[simp] theorem outs_ow {c : Ct} {xs : List Rs} {k : Nat} {r : Ro} : outs (.ow c :: xs) k r = outP c r[k]? :: outs xs (k + 1) r := rfl
def alB (i : Nat) : Sl → Bool
  | .al j _ => j != i
  | _ => true
@[simp] theorem noAl_nil {i : Nat} : noAl [] i = true := rfl
@[simp] theorem noAl_cons {i : Nat} {x : Sl} {r : Ro} : noAl (x :: r) i = (alB i x && noAl r i) := by
  unfold noAl
  rw [List.all_cons]
  cases x <;> rfl
@[simp] theorem alB_frz {i : Nat} {b : Bool} {d : D} : alB i (.frz b d) = true := rfl
@[simp] theorem alB_own {i : Nat} {b : Bool} {c : Ct} : alB i (.own b c) = true := rfl
@[simp] theorem alB_non {i : Nat} : alB i .non = true := rfl
@[simp] theorem alB_al {i j k : Nat} : alB i (.al j k) = (j != i) := rfl
/-- a slot that a loop may store to -/
structure Fr (x : Sl) : Prop where
  pin : putSl.pinnedB x = false
  al : ∀ i, alB i x = true
theorem Fr.non : Fr .non := ⟨rfl, fun _ => rfl⟩
theorem Fr.frz {d : D} : Fr (.frz false d) := ⟨rfl, fun _ => rfl⟩
theorem Fr.lst {c : Ct} : Fr (.own false c) := ⟨rfl, fun _ => rfl⟩
end DL
end

section
namespace DL
open PySem
section
variable {X : Exn → Ro → Prop} {r : Ro}
/-- the walk of a comprehension -/
def lcK (vs : List Nat) (set : D → S) (t : M Bool) (e : M RV) (ds acc : List D) (r : Ro) (k : List D → Ro → Prop) : Prop := ∃ zs r', lcM vs set t e ds acc r = some (zs, r') ∧ k zs r'
def wipeP (r : Ro) (k : Ro → Prop) : List Nat → Prop
  | [] => k r
  | v :: vs => wipeP r (fun r' => setP r' v .non k) vs
@[simp, simp ↓] theorem wipeP_nil {k : Ro → Prop} : wipeP r k [] ↔ k r := Iff.rfl
@[simp, simp ↓] theorem wipeP_cons {v : Nat} {vs : List Nat} {k : Ro → Prop} : wipeP r k (v :: vs) ↔ wipeP r (fun r' => setP r' v .non k) vs := Iff.rfl
theorem wipeP_eq {vs : List Nat} : ∀ {k : Ro → Prop}, wipeP r k vs ↔ k (wipeR r vs) := by
  induction vs with
  | nil => intro k; exact Iff.rfl
  | cons v vs ih => intro k; exact ih
@[simp, simp ↓] theorem E_mLc {vs : List Nat} {mi : M (List D)} {set : D → S} {t : M Bool} {e : M RV} {Q : RV → Ro → Prop} : E X (mLc vs mi set t e) r Q ↔ E X mi r fun ds r' => anyPin r' vs = false ∧ wipeP r' (fun r2 => lcK vs set t e ds [] r2 fun zs r3 => Q (.new (.lst zs)) r3) vs := by
  refine Iff.trans (E_bind (m := mi)) ?_
  simp only [wipeP_eq]
  constructor
  · intro h
    refine h.mono fun ds r' h => ?_
    obtain ⟨v, r2, e1, q⟩ := h
    cases h1 : anyPin r' vs with
    | true => simp [h1] at e1
    | false =>
      simp only [h1, Bool.false_eq_true, if_false] at e1
      obtain ⟨⟨a, b⟩, e2, e3⟩ := Option.map_eq_some_iff.mp e1
      cases e3
      exact ⟨rfl, a, b, e2, q⟩
  · intro h
    refine h.mono fun ds r' ⟨h1, a, b, e2, q⟩ => ?_
    exact ⟨.ok (.new (.lst a)), b, by simp only [h1, e2]; rfl, q⟩
/-- the item behind the test -/
def itP (t : M Bool) (e : M RV) (k : Option D → Ro → Prop) : SO → Ro → Prop
  | .nx, r => E (fun _ _ => False) t r fun b r2 => ifP b (E (fun _ _ => False) (mFz e) r2 fun x r3 => k (some x) r3) (k none r2)
  | _, _ => False
@[simp, simp ↓] theorem itP_nx {t : M Bool} {e : M RV} {k : Option D → Ro → Prop} : itP t e k .nx r ↔ E (fun _ _ => False) t r fun b r2 => ifP b (E (fun _ _ => False) (mFz e) r2 fun x r3 => k (some x) r3) (k none r2) := Iff.rfl
/-- a comprehension by what each item gives -/
theorem lcK_of {vs : List Nat} {set : D → S} {t : M Bool} {e : M RV} (f : D → Option D) : ∀ {ds acc : List D} {k : List D → Ro → Prop},
    (∀ d ∈ ds, W (set d) r (itP t e fun x r3 => x = f d ∧ wipeP r3 (fun r4 => r4 = r) vs)) → acc.length + ds.length ≤ lineD → k (acc ++ ds.filterMap f) r → lcK vs set t e ds acc r k := by
  intro ds
  induction ds with
  | nil => intro acc k _ _ hk; exact ⟨_, _, rfl, by simpa using hk⟩
  | cons d ds ih =>
    intro acc k hs hl hk
    obtain ⟨o, r1, e1, h⟩ := hs d (List.mem_cons_self ..)
    have rest := fun d' h' => hs d' (List.mem_cons_of_mem _ h')
    cases o with
    | nx =>
      obtain ⟨b, r2, e2, h⟩ := h
      cases b with
      | exc x => exact h.elim
      | ok b =>
        cases b with
        | true =>
          have h := ifP_true.mp h
          obtain ⟨x, r3, e3, h⟩ := h
          cases x with
          | exc x => exact h.elim
          | ok x =>
            obtain ⟨h1, h2⟩ := h
            rw [wipeP_eq] at h2
            have : (acc ++ [x]).length + ds.length ≤ lineD := by simp at hl ⊢; omega
            obtain ⟨zs, r', e4, q⟩ := ih (acc := acc ++ [x]) rest this (by simpa [List.filterMap_cons, ← h1] using hk)
            refine ⟨zs, r', ?_, q⟩
            unfold lcM
            simp only [e1, e2, e3, h2]
            rw [if_pos (by simp at hl; omega)]
            exact e4
        | false =>
          have h := ifP_false.mp h
          obtain ⟨h1, h2⟩ := h
          rw [wipeP_eq] at h2
          obtain ⟨zs, r', e4, q⟩ := ih (acc := acc) rest (by simp at hl ⊢; omega) (by simpa [List.filterMap_cons, ← h1] using hk)
          refine ⟨zs, r', ?_, q⟩
          unfold lcM
          simp only [e1, e2, h2]
          exact e4
    | _ => exact h.elim
/-- a comprehension whose items change the slots, by an invariant: k items done, these the results -/
theorem lcK_inv {vs : List Nat} {set : D → S} {t : M Bool} {e : M RV} (I : Nat → List D → Ro → Prop) : ∀ {ds acc : List D} {n : Nat} {r : Ro} {k : List D → Ro → Prop}, I n acc r → acc.length + ds.length ≤ lineD →
    (∀ j d acc r, ds[j]? = some d → I (n + j) acc r → W (set d) r (itP t e fun x r3 => wipeP r3 (fun r4 => I (n + j + 1) (acc ++ x.toList) r4) vs)) → (∀ zs r', I (n + ds.length) zs r' → k zs r') → lcK vs set t e ds acc r k := by
  intro ds
  induction ds with
  | nil => intro acc n r k h _ _ hk; exact ⟨_, _, rfl, hk _ _ h⟩
  | cons d ds ih =>
    intro acc n r k hI hl hs hk
    obtain ⟨o, r1, e1, h⟩ := hs 0 d acc r rfl hI
    have rest : ∀ j d' acc r, ds[j]? = some d' → I (n + 1 + j) acc r → W (set d') r (itP t e fun x r3 => wipeP r3 (fun r4 => I (n + 1 + j + 1) (acc ++ x.toList) r4) vs) := fun j d' acc r e h => by
      have := hs (j + 1) d' acc r e (by rw [show n + (j + 1) = n + 1 + j by omega]; exact h)
      rw [show n + (j + 1) = n + 1 + j by omega] at this
      exact this
    have hk' : ∀ zs r', I (n + 1 + ds.length) zs r' → k zs r' := fun zs r' h => hk zs r' (by rw [show n + (d :: ds).length = n + 1 + ds.length by simp; omega]; exact h)
    cases o with
    | nx =>
      obtain ⟨b, r2, e2, h⟩ := h
      cases b with
      | exc x => exact h.elim
      | ok b =>
        cases b with
        | true =>
          have h := ifP_true.mp h
          obtain ⟨x, r3, e3, h⟩ := h
          cases x with
          | exc x => exact h.elim
          | ok x =>
            have h : wipeP r3 (fun r4 => I (n + 0 + 1) (acc ++ [x]) r4) vs := h
            rw [wipeP_eq] at h
            obtain ⟨zs, r', e4, q⟩ := ih (acc := acc ++ [x]) h (by simp at hl ⊢; omega) rest hk'
            refine ⟨zs, r', ?_, q⟩
            unfold lcM
            simp only [e1, e2, e3]
            rw [if_pos (by simp at hl; omega)]
            exact e4
        | false =>
          have h := ifP_false.mp h
          have h : wipeP r2 (fun r4 => I (n + 0 + 1) (acc ++ []) r4) vs := h
          rw [wipeP_eq, List.append_nil] at h
          obtain ⟨zs, r', e4, q⟩ := ih (acc := acc) h (by simp at hl ⊢; omega) rest hk'
          refine ⟨zs, r', ?_, q⟩
          unfold lcM
          simp only [e1, e2]
          exact e4
    | _ => exact h.elim
theorem lcK_map {vs : List Nat} {set : D → S} {t : M Bool} {e : M RV} (f : D → D) {ds : List D} {k : List D → Ro → Prop}
    (h : ∀ d ∈ ds, W (set d) r (itP t e fun x r3 => x = some (f d) ∧ wipeP r3 (fun r4 => r4 = r) vs)) (hl : ds.length ≤ lineD) (hk : k (ds.map f) r) : lcK vs set t e ds [] r k :=
  lcK_of (fun d => some (f d)) h (by simpa using hl) (by simpa using hk)
/-- new lists -/
def lcLK (vs : List Nat) (set : D → S) (t : M Bool) (e : M RV) (ds : List D) (acc : List (List D)) (r : Ro) (k : List (List D) → Ro → Prop) : Prop := ∃ zs r', lcL vs set t e ds acc r = some (zs, r') ∧ k zs r'
@[simp, simp ↓] theorem E_mLcL {vs : List Nat} {mi : M (List D)} {set : D → S} {t : M Bool} {e : M RV} {Q : RV → Ro → Prop} : E X (mLcL vs mi set t e) r Q ↔ E X mi r fun ds r' => anyPin r' vs = false ∧ wipeP r' (fun r2 => lcLK vs set t e ds [] r2 fun zs r3 => Q (.new (.ll zs)) r3) vs := by
  refine Iff.trans (E_bind (m := mi)) ?_
  simp only [wipeP_eq]
  constructor
  · intro h
    refine h.mono fun ds r' h => ?_
    obtain ⟨v, r2, e1, q⟩ := h
    cases h1 : anyPin r' vs with
    | true => simp [h1] at e1
    | false =>
      simp only [h1, Bool.false_eq_true, if_false] at e1
      obtain ⟨⟨a, b⟩, e2, e3⟩ := Option.map_eq_some_iff.mp e1
      cases e3
      exact ⟨rfl, a, b, e2, q⟩
  · intro h
    refine h.mono fun ds r' ⟨h1, a, b, e2, q⟩ => ?_
    exact ⟨.ok (.new (.ll a)), b, by simp only [h1, e2]; rfl, q⟩
def itLP (t : M Bool) (e : M RV) (k : RV → Ro → Prop) : SO → Ro → Prop
  | .nx, r => E (fun _ _ => False) t r fun b r2 => ifP b (E (fun _ _ => False) e r2 k) False
  | _, _ => False
@[simp, simp ↓] theorem itLP_nx {t : M Bool} {e : M RV} {k : RV → Ro → Prop} : itLP t e k .nx r ↔ E (fun _ _ => False) t r fun b r2 => ifP b (E (fun _ _ => False) e r2 k) False := Iff.rfl
theorem lcLK_map {vs : List Nat} {set : D → S} {t : M Bool} {e : M RV} (f : D → List D) : ∀ {ds : List D} {acc : List (List D)} {k : List (List D) → Ro → Prop},
    (∀ d ∈ ds, W (set d) r (itLP t e fun x r3 => x = .new (.lst (f d)) ∧ wipeP r3 (fun r4 => r4 = r) vs)) → acc.length + ds.length ≤ lineD → k (acc ++ ds.map f) r → lcLK vs set t e ds acc r k := by
  intro ds
  induction ds with
  | nil => intro acc k _ _ hk; exact ⟨_, _, rfl, by simpa using hk⟩
  | cons d ds ih =>
    intro acc k hs hl hk
    obtain ⟨o, r1, e1, h⟩ := hs d (List.mem_cons_self ..)
    have rest := fun d' h' => hs d' (List.mem_cons_of_mem _ h')
    cases o with
    | nx =>
      obtain ⟨b, r2, e2, h⟩ := h
      cases b with
      | exc x => exact h.elim
      | ok b =>
        cases b with
        | true =>
          have h := ifP_true.mp h
          obtain ⟨x, r3, e3, h⟩ := h
          cases x with
          | exc x => exact h.elim
          | ok x =>
            obtain ⟨rfl, h2⟩ := h
            rw [wipeP_eq] at h2
            have : (acc ++ [f d]).length + ds.length ≤ lineD := by simp at hl ⊢; omega
            obtain ⟨zs, r', e4, q⟩ := ih (acc := acc ++ [f d]) rest this (by simpa using hk)
            refine ⟨zs, r', ?_, q⟩
            unfold lcL
            simp only [e1, e2, e3, h2]
            rw [if_pos (by simp at hl; omega)]
            exact e4
        | false => exact (ifP_false.mp h).elim
    | _ => exact h.elim
@[simp, simp ↓] theorem E_mBd_none {Q : Option Int → Ro → Prop} : E X (mBd none) r Q ↔ Q none r := E_ret
@[simp, simp ↓] theorem E_mBd_some {m : M AV} {Q : Option Int → Ro → Prop} : E X (mBd (some m)) r Q ↔ E X m r fun a r1 => optP (((look2 r1 a).bind Rs.data).bind intO) fun n => Q (some n) r1 := by
  refine Iff.trans (E_bind (m := m)) ?_
  constructor
  · intro h
    refine h.mono fun a r' h => ?_
    obtain ⟨v, r2, e1, q⟩ := h
    cases h1 : (look2 r' a).bind Rs.data with
    | none => simp only [h1] at e1; cases e1
    | some d => cases d with
      | int n => simp only [h1] at e1; cases e1; exact ⟨n, rfl, q⟩
      | _ => simp only [h1] at e1; cases e1
  · intro h
    refine h.mono fun a r' ⟨n, h1, q⟩ => ?_
    cases h2 : (look2 r' a).bind Rs.data with
    | none => rw [h2] at h1; cases h1
    | some d => cases d with
      | int n => rw [h2] at h1; cases h1; exact ⟨.ok (some n), r', by simp only [h2], q⟩
      | _ => rw [h2] at h1; cases h1
theorem E_fun {α β : Type} {m : M α} {f : α → M β} {g : α → Ro → Option β} (hf : ∀ a r, f a r = (g a r).map fun v => (.ok v, r)) {Q : β → Ro → Prop} : E X (m.bind f) r Q ↔ E X m r fun a r1 => optP (g a r1) fun v => Q v r1 := by
  refine Iff.trans E_bind ?_
  constructor
  · intro h
    refine h.mono fun a r' ⟨v, r2, e1, q⟩ => ?_
    rw [hf] at e1
    cases h1 : g a r' with
    | none => rw [h1] at e1; cases e1
    | some b => rw [h1] at e1; cases e1; exact ⟨b, rfl, q⟩
  · intro h
    refine h.mono fun a r' ⟨v, e1, q⟩ => ?_
    exact ⟨.ok v, r', by rw [hf, e1]; rfl, q⟩
@[simp, simp ↓] theorem E_mSl {m : M AV} {lo hi : Option (M AV)} {Q : RV → Ro → Prop} : E X (mSl m lo hi) r Q ↔ E X m r fun a r1 => E X (mBd lo) r1 fun l r2 => E X (mBd hi) r2 fun h r3 => optP ((look2 r3 a).bind (gCut l h)) fun v => Q v r3 := by
  refine Iff.trans (E_bind (m := m)) ?_
  constructor <;> intro h <;> refine h.mono fun a r1 h => ?_
  · refine (E_bind (m := mBd lo).mp h).mono fun l r2 h => ?_
    exact (E_fun (m := mBd hi) fun _ _ => rfl).mp h
  · refine E_bind (m := mBd lo).mpr (h.mono fun l r2 h => ?_)
    exact (E_fun (m := mBd hi) fun _ _ => rfl).mpr h
@[simp] theorem gCut_t {lo hi : Option Int} {xs : List D} : gCut lo hi (.fz (.tuple xs)) = some (.val (.tuple (cutD xs lo hi))) := rfl
@[simp] theorem gCut_l {lo hi : Option Int} {xs : List D} : gCut lo hi (.fz (.list xs)) = some (.new (.lst (cutD xs lo hi))) := rfl
@[simp] theorem gCut_o {lo hi : Option Int} {xs : List D} : gCut lo hi (.ow (.lst xs)) = some (.new (.lst (cutD xs lo hi))) := rfl
theorem scrL_map (ns : List Int) : scrL (ns.map fun n => (PyData.int n, PyData.none)) = some ns := by
  induction ns with
  | nil => rfl
  | cons n ns ih => simp [scrL, ih]
theorem scrOf_map (ns : List Int) : scrOf ((PyData.none, PyData.none) :: ns.map fun n => (PyData.int n, PyData.none)) = some ns := scrL_map ns
@[simp] theorem gCut_scr {lo hi : Option Int} {ns : List Int} : gCut lo hi (.fz (.dict ((.none, .none) :: ns.map fun n => (PyData.int n, PyData.none)))) = some (.new (.lst ((cutD ns lo hi).map .int))) := by
  show (scrOf ((PyData.none, PyData.none) :: ns.map fun n => (PyData.int n, PyData.none))).map _ = _
  rw [scrOf_map]
  rfl
@[simp, simp ↓] theorem E_mNewK {Q : RV → Ro → Prop} : E X mNewK r Q ↔ Q (.new (.dK [])) r := E_ret
def dictO : Option Sl → Option (List (Ky × D))
  | some (.own _ (.dK kvs)) => some kvs
  | _ => none
@[simp] theorem dictO_own {b : Bool} {kvs : List (Ky × D)} : dictO (some (.own b (.dK kvs))) = some kvs := rfl
@[simp] theorem dictAt_def {i : Nat} : dictAt r i = dictO r[i]? := rfl
@[simp] theorem keyAt_def {a : AV} : keyAt r a = ((look2 r a).bind Rs.data).bind kyOf := rfl
@[simp] theorem hasD_def {i : Nat} : hasD r i = (dictO r[i]?).isSome := rfl
@[simp] theorem kyOf_i {n : Int} : kyOf (.int n) = some (.inl n) := rfl
@[simp] theorem kyOf_s {x : Str} : kyOf (.str x) = some (.inr x) := rfl
theorem E_cong {α : Type} {m m' : M α} {Q : α → Ro → Prop} (h : m r = m' r) : E X m r Q ↔ E X m' r Q := by
  unfold E
  rw [h]
theorem W_putD {i : Nat} {me : M RV} {mk : M AV} {Q : SO → Ro → Prop} (h : E (fun x => Q (.exc x)) me r fun v r1 => optP v.data fun d => hasD r1 i = true ∧ E (fun x => Q (.exc x)) mk r1 fun a r2 => optP (keyAt r2 a) fun k => ∃ b kvs, r2[i]? = some (.own b (.dK kvs)) ∧ kvs.length < lineD ∧ setP r2 i (.own b (.dK (putD kvs k d))) (Q .nx)) : W (sPut i me mk) r Q := by
  unfold sPut
  refine W_ex.mpr (E_mFz.mpr (h.mono fun v r1 ⟨d, e1, h1, h2⟩ => ⟨d, e1, ?_⟩))
  obtain ⟨a, r2, e2, q⟩ := h2
  cases a with
  | ok a =>
    obtain ⟨k, h3, b, kvs, h4, h5, q⟩ := q
    refine ⟨.nx, _, ?_, q⟩
    dsimp only
    rw [if_pos h1]
    simp only [sEx, e2, h4, h3]
    rw [if_pos h5]
  | exc x =>
    refine ⟨.exc x, r2, ?_, q⟩
    dsimp only
    rw [if_pos h1]
    simp only [sEx, e2]
theorem valD_put {κ : Type} [DecidableEq κ] {kvs : List (κ × D)} {k k' : κ} {v : D} : valD (putD kvs k v) k' = if k' = k then some v else valD kvs k' := by
  unfold putD
  split
  · rename_i h
    obtain ⟨⟨k0, v0⟩, hm, h0⟩ := List.any_eq_true.mp h
    unfold valD
    clear h
    induction kvs with
    | nil => cases hm
    | cons a kvs ih =>
      obtain ⟨ka, va⟩ := a
      rw [List.map_cons]
      by_cases hka : ka = k
      · subst hka
        by_cases hk' : k' = ka
        · subst hk'; simp
        · have hk2 : ¬ ka = k' := fun e => hk' e.symm
          simp only [if_true, List.find?_cons, hk2, decide_false, hk', if_false]
          clear ih hm
          induction kvs with
          | nil => rfl
          | cons b kvs ih2 =>
            obtain ⟨kb, vb⟩ := b
            rw [List.map_cons]
            by_cases hkb : kb = ka
            · subst hkb
              simp only [if_true, List.find?_cons, hk2, decide_false]
              exact ih2
            · simp only [hkb, if_false, List.find?_cons]
              by_cases hkb' : kb = k'
              · simp [hkb']
              · simp only [hkb', decide_false]; exact ih2
      · rcases List.mem_cons.mp hm with e | hm
        · cases e; simp at h0; exact absurd h0 hka
        · have := ih hm
          simp only [hka, if_false, List.find?_cons]
          by_cases hk' : ka = k'
          · have : ¬ k' = k := fun e => hka (hk'.trans e)
            simp [hk', this]
          · simp only [hk', decide_false]; exact this
  · rename_i h
    unfold valD
    rw [List.find?_append]
    by_cases hk : k' = k
    · subst hk
      have : kvs.find? (fun kv => decide (kv.1 = k')) = none := List.find?_eq_none.mpr fun x hx hd => h (List.any_eq_true.mpr ⟨x, hx, hd⟩)
      rw [this]
      simp
    · have : ¬ k = k' := fun e => hk e.symm
      cases kvs.find? (fun kv => decide (kv.1 = k')) <;> simp [hk, this]
theorem putD_len {κ : Type} [DecidableEq κ] {kvs : List (κ × D)} {k : κ} {v : D} : (putD kvs k v).length ≤ kvs.length + 1 := by
  unfold putD
  split <;> simp
theorem sIxD_nat {n d k : Nat} : sIxD n d (some (k : Int)) = min k n := by
  unfold sIxD
  dsimp only
  rw [if_neg (by omega)]
  simp
theorem cutD_take {α : Type} {xs : List α} {n : Nat} : cutD xs none (some (n : Int)) = xs.take n := by
  unfold cutD
  rw [sIxD_nat]
  show List.take (min n xs.length - 0) (List.drop 0 xs) = _
  rw [Nat.sub_zero, List.drop_zero]
  by_cases h : n ≤ xs.length
  · rw [Nat.min_eq_left h]
  · rw [Nat.min_eq_right (by omega), List.take_of_length_le (by omega), List.take_of_length_le (by omega)]
theorem cutD_drop {α : Type} {xs : List α} {n : Nat} : cutD xs (some (n : Int)) none = xs.drop n := by
  unfold cutD
  rw [sIxD_nat]
  show List.take (xs.length - _) _ = _
  by_cases h : n ≤ xs.length
  · rw [Nat.min_eq_left h, List.take_of_length_le (by simp)]
  · rw [Nat.min_eq_right (by omega), List.drop_eq_nil_of_le (by omega), List.drop_eq_nil_of_le (by omega)]; simp
@[simp] theorem cutD_take1 {α : Type} {xs : List α} : cutD xs none (some 1) = xs.take 1 := cutD_take (n := 1)
@[simp] theorem cutD_drop1 {α : Type} {xs : List α} : cutD xs (some 1) none = xs.drop 1 := cutD_drop (n := 1)
@[simp] theorem intsD_map {ns : List Int} : intsD (ns.map .int) = some ns := by
  induction ns with
  | nil => rfl
  | cons n ns ih => simp [intsD, ih]
end
end DL
end

section
namespace DL
open PySem
section
variable {X : Exn → Ro → Prop} {r : Ro}
@[simp] theorem view_fz {d : D} : (Rs.fz d).view = some (.fz d) := rfl
@[simp] theorem view_lst {ds : List D} : (Rs.ow (.lst ds)).view = some (.fz (.list ds)) := rfl
@[simp] theorem view_ll {rows : List (List D)} : (Rs.ow (.ll rows)).view = some (.fz (.list (rows.map .list))) := rfl
@[simp, simp ↓] theorem E_mIn {neg : Bool} {i : Nat} {mk : M AV} {Q : RV → Ro → Prop} : E X (mIn neg i mk) r Q ↔ E X mk r fun a r1 => optP (dictAt r1 i) fun kvs => optP (keyAt r1 a) fun k => Q (.val (.bool (neg ^^ (valD kvs k).isSome))) r1 := by
  refine Iff.trans (E_bind (m := mk)) ?_
  constructor
  · intro h
    refine h.mono fun a r1 ⟨v, r2, e, q⟩ => ?_
    unfold fIn at e
    cases h1 : dictAt r1 i with
    | none => rw [h1] at e; cases e
    | some kvs =>
      cases h2 : keyAt r1 a with
      | none => rw [h1, h2] at e; cases e
      | some k =>
        rw [h1, h2] at e
        cases e
        refine ⟨kvs, rfl, k, rfl, ?_⟩
        cases neg <;> simpa using q
  · intro h
    refine h.mono fun a r1 ⟨kvs, h1, k, h2, q⟩ => ?_
    refine ⟨.ok _, r1, by unfold fIn; rw [h1, h2], ?_⟩
    cases neg <;> simpa using q
def putKP (i : Nat) (k : Ky) (d : D) (Q : SO → Ro → Prop) (r : Ro) (x : Option Sl) (t : Tok Q := .tok) : Prop := match x with
  | some (.own b (.dK kvs)) => kvs.length < lineD ∧ setP r i (.own b (.dK (putD kvs k d))) (Q .nx)
  | _ => False
@[simp, simp ↓] theorem putKP_own {i : Nat} {k : Ky} {d : D} {Q : SO → Ro → Prop} {b : Bool} {kvs : List (Ky × D)} : putKP i k d Q r (some (.own b (.dK kvs))) ↔ kvs.length < lineD ∧ setP r i (.own b (.dK (putD kvs k d))) (Q .nx) := Iff.rfl
def putKQ (i : Nat) (mk : M AV) (d : D) (Q : SO → Ro → Prop) (r : Ro) (b : Bool) (t : Tok Q := .tok) (u : Tok mk := .tok) : Prop := b = true ∧ E (fun x => Q (.exc x)) mk r fun a r2 => optP (keyAt r2 a) fun k => putKP i k d Q r2 r2[i]?
@[simp, simp ↓] theorem putKQ_t {i : Nat} {mk : M AV} {d : D} {Q : SO → Ro → Prop} : putKQ i mk d Q r true ↔ E (fun x => Q (.exc x)) mk r fun a r2 => optP (keyAt r2 a) fun k => putKP i k d Q r2 r2[i]? := ⟨fun h => h.2, fun h => ⟨rfl, h⟩⟩
@[simp, simp ↓] theorem W_putK {i : Nat} {me : M RV} {mk : M AV} {Q : SO → Ro → Prop} : W (sPut i me mk) r Q ↔ E (fun x => Q (.exc x)) me r fun v r1 => optP v.data fun d => putKQ i mk d Q r1 (hasD r1 i) := by
  constructor
  · intro h
    unfold sPut at h
    refine (E_mFz.mp (W_ex.mp h)).mono fun v r1 ⟨d, e1, h1⟩ => ⟨d, e1, ?_⟩
    obtain ⟨o, r2, e2, q⟩ := h1
    dsimp only at e2
    split at e2
    · rename_i hd
      refine ⟨hd, ?_⟩
      refine (W_ex.mp (⟨o, r2, e2, q⟩ : W (sEx mk _) r1 Q)).mono fun a r3 ⟨o3, r4, e4, q4⟩ => ?_
      dsimp only at e4
      split at e4
      · rename_i b kvs k q1 q2
        split at e4
        · rename_i hl
          cases e4
          exact ⟨k, q2, by rw [q1]; exact ⟨hl, q4⟩⟩
        · cases e4
      · cases e4
    · cases e2
  · intro h
    refine W_putD (h.mono fun v r1 ⟨d, e1, h1, h2⟩ => ⟨d, e1, h1, h2.mono fun a r2 ⟨k, e3, h3⟩ => ⟨k, e3, ?_⟩⟩)
    unfold putKP at h3
    split at h3
    · rename_i b kvs q1
      exact ⟨b, kvs, q1, h3.1, h3.2⟩
    · exact h3.elim
end
section
variable {xs ys ds : List D} {d e : D} {i : Int}
@[simp] theorem gAdd_ll : gAdd [.fz (.list xs), .fz (.list ys)] = if xs.length + ys.length ≤ lineD then some (.new (.lst (xs ++ ys))) else none := rfl
@[simp] theorem gInt_i : gInt [.fz (.int i)] = some (.val (.int i)) := rfl
@[simp] theorem gInt_b {b : Bool} : gInt [.fz (.bool b)] = some (.val (.int (if b then 1 else 0))) := rfl
@[simp] theorem gLRng1_i : gLRng1 [.fz (.int i)] = if okR i = true ∧ (rng 0 i).length ≤ lineD then some (.new (.lst (rng 0 i))) else none := by
  unfold gLRng1 rowN
  rw [gRng1_i]
  by_cases h : okR i = true <;> by_cases h2 : (rng 0 i).length ≤ lineD <;> simp [h, h2]
end
/-- data's looks -/
@[simp] theorem okE_i {i : Int} : okE (.int i) = true := by unfold okE PyData.canLay0 PyData.depth; rfl
@[simp] theorem okE_b {i : Bool} : okE (.bool i) = true := by unfold okE PyData.canLay0 PyData.depth; rfl
@[simp] theorem okE_n : okE .none = true := by unfold okE PyData.canLay0 PyData.depth; rfl
theorem lay_ints (ns : List Int) : PyData.canLayAll0 (ns.map .int) = true := by
  induction ns with
  | nil => simp [PyData.canLayAll0]
  | cons n ns ih => simp [PyData.canLayAll0, PyData.canLay0, ih]
theorem dep_ints (ns : List Int) : PyData.depthAll (ns.map .int) = 0 := W.depth_ints ns
@[simp] theorem okE_ti {ns : List Int} : okE (.tuple (ns.map .int)) = true := by
  unfold okE PyData.canLay0 PyData.depth
  rw [lay_ints, dep_ints]
  rfl
@[simp] theorem okE_li {ns : List Int} : okE (.list (ns.map .int)) = true := by
  unfold okE PyData.canLay0 PyData.depth
  rw [lay_ints, dep_ints]
  rfl
@[simp] theorem all_okE_ints {ns : List Int} : (ns.map PyData.int).all okE = true := by
  rw [List.all_map]
  exact List.all_eq_true.mpr fun n _ => okE_i
theorem eqv_ints : ∀ (ns ms : List Int), PyData.eqvAll (ns.map .int) (ms.map .int) = decide (ns = ms)
  | [], [] => by simp [PyData.eqvAll]
  | [], _ :: _ => by simp [PyData.eqvAll]
  | _ :: _, [] => by simp [PyData.eqvAll]
  | n :: ns, m :: ms => by
    simp only [List.map_cons, PyData.eqvAll, eqv_ints ns ms, eqv_ii]
    by_cases h : n = m <;> simp [h]
@[simp] theorem eqv_ti {ns ms : List Int} : PyData.eqv (.tuple (ns.map .int)) (.tuple (ms.map .int)) = decide (ns = ms) := by
  unfold PyData.eqv
  exact eqv_ints ns ms
@[simp] theorem eqv_int2 {a b : Int} : PyData.eqv (.int a) (.int b) = decide (a = b) := by
  rw [eqv_ii]
  rfl
end DL
end

section
namespace DL
open PySem
end DL
end

section
namespace DL
open PySem
section
variable {X : Exn → Ro → Prop} {r : Ro}
end
end DL
end

section
namespace DL
open PySem
section
variable {X : Exn → Ro → Prop} {r : Ro}
def dlO : Option Sl → Option (Bool × List (Ky × List D))
  | some (.own b (.dl kvs)) => some (b, kvs)
  | some (.own b (.dK [])) => some (b, [])
  | _ => none
@[simp] theorem dlO_dl {b : Bool} {kvs : List (Ky × List D)} : dlO (some (.own b (.dl kvs))) = some (b, kvs) := rfl
@[simp] theorem dlO_dK {b : Bool} : dlO (some (.own b (.dK []))) = some (b, []) := rfl
@[simp] theorem dlAt_def {i : Nat} : dlAt r i = dlO r[i]? := by
  unfold dlAt dlO
  rfl
def frzO : Option Sl → Option D
  | some (.frz _ d) => some d
  | _ => none
@[simp] theorem frzO_frz {b : Bool} {d : D} : frzO (some (.frz b d)) = some d := rfl
@[simp] theorem frzAt_def {j : Nat} : frzAt r j = frzO r[j]? := by
  unfold frzAt frzO
  rfl
def dlOk (kvs : List (Ky × List D)) : Prop := kvs.length < lineD ∧ (kvs.all fun kv => decide (kv.2.length < lineD)) = true ∧ (kvs.map (·.1)).Nodup
@[simp, simp ↓] theorem E_mSdA {i j : Nat} {mk : M AV} {Q : RV → Ro → Prop} : E X (mSdA i j mk) r Q ↔ (dlAt r i).isSome = true ∧ E X mk r fun a r1 => optP (dlAt r1 i) fun p => optP (keyAt r1 a) fun k => optP (frzAt r1 j) fun d => dlOk p.2 ∧ setP r1 i (.own p.1 (.dl (putL p.2 k d))) (Q (.val .none)) := by
  cases h : (dlAt r i).isSome with
  | false => rw [E_no (by simp only [mSdA, h]; rfl)]; simp
  | true =>
    refine (E_cong (m' := mk.bind (fSdA i j)) (by simp only [mSdA, h]; rfl)).trans ?_
    refine E_bind.trans ?_
    simp only [true_and]
    constructor
    all_goals
      intro h
      refine h.mono fun a r1 h => ?_
    · obtain ⟨o, r2, e, q⟩ := h
      unfold fSdA at e
      cases h1 : dlAt r1 i with
      | none => rw [h1] at e; cases e
      | some p =>
        obtain ⟨b, kvs⟩ := p
        cases h2 : keyAt r1 a with
        | none => rw [h1, h2] at e; cases e
        | some k =>
          cases h3 : frzAt r1 j with
          | none => rw [h1, h2, h3] at e; cases e
          | some d =>
            rw [h1, h2, h3] at e
            simp only at e
            split at e
            · rename_i hz
              cases e
              exact ⟨_, rfl, _, rfl, _, rfl, hz, q⟩
            · cases e
    · obtain ⟨p, h1, k, h2, d, h3, hz, q⟩ := h
      refine ⟨.ok (.val .none), r1.set i (.own p.1 (.dl (putL p.2 k d))), ?_, q⟩
      unfold fSdA
      rw [h1, h2, h3]
      exact if_pos hz
def rdlOk (r : Ro) (i : Nat) (vs : List Nat) (ns : List Int) : Prop := ns.length < 64 ∧ ns.Nodup ∧ noAl r i = true ∧ i ∉ vs ∧ anyPin r vs = false ∧ (vs.all fun v => decide (v < r.length)) = true
@[simp, simp ↓] theorem W_retDl {i : Nat} {vs : List Nat} {Q : SO → Ro → Prop} : W (sRetDl i vs) r Q ↔ optP (dlAt r i) fun p => p.1 = false ∧ optP (intK p.2) fun ns => rdlOk r i vs ns ∧ wipeP r (fun r2 => setP r2 i (.own false (.ll ((ns.mergeSort fun a b => decide (a ≤ b)).map (lookL p.2)))) (Q (.rets i))) vs := by
  constructor
  · rintro ⟨o, r2, e, q⟩
    unfold sRetDl at e
    split at e
    · rename_i kvs h1
      split at e
      · rename_i ns h2
        split at e
        · rename_i hz
          cases e
          exact ⟨_, h1, rfl, _, h2, hz, wipeP_eq.mpr q⟩
        · cases e
      · cases e
    · cases e
  · rintro ⟨⟨b, kvs⟩, h1, rfl, ns, h2, hz, q⟩
    refine ⟨.rets i, (wipeR r vs).set i (.own false (.ll ((ns.mergeSort fun a b => decide (a ≤ b)).map (lookL kvs)))), ?_, wipeP_eq.mp q⟩
    unfold sRetDl
    rw [h1]
    simp only
    rw [h2]
    simp only
    exact if_pos hz
end
end DL
end

section
namespace DL
open PySem
section
variable {X : Exn → Ro → Prop} {r : Ro}
@[simp] theorem viewV_val {d : D} : viewV (.val d) = some (.val d) := rfl
@[simp] theorem viewV_ll {rows : List (List D)} : viewV (.new (.ll rows)) = some (.val (.list (rows.map .list))) := rfl
@[simp] theorem viewV_lst {ds : List D} : viewV (.new (.lst ds)) = some (.val (.list ds)) := rfl
@[simp, simp ↓] theorem E_mFzL {m : M RV} {Q : RV → Ro → Prop} : E X (mFzL m) r Q ↔ E X m r fun v r1 => optP (viewV v) fun w => Q w r1 := by
  unfold mFzL
  simp only [E_bind, E_of]
@[simp] theorem gSortSet_l {ns : List Int} : gSortSet [.fz (.list (ns.map .int))] = if ns.length < 64 then some (.new (.lst ((dsort ns).map .int))) else none := by
  show (match intsD (ns.map .int) with | some ns => if ns.length < 64 then some (RV.new (.lst ((dsort ns).map .int))) else none | none => none) = _
  rw [intsD_map]
@[simp] theorem gSortSet_o {ns : List Int} : gSortSet [.ow (.lst (ns.map .int))] = if ns.length < 64 then some (.new (.lst ((dsort ns).map .int))) else none := by
  show (match intsD (ns.map .int) with | some ns => if ns.length < 64 then some (RV.new (.lst ((dsort ns).map .int))) else none | none => none) = _
  rw [intsD_map]
end
end DL
end

section
namespace DL
open PySem
section
variable {X : Exn → Ro → Prop} {r : Ro}
end
end DL
end

section
namespace DL
open PySem
section
variable {X : Exn → Ro → Prop} {r : Ro}
end
end DL
end

section
namespace DL
open PySem
section
variable {r : Ro}
end
end DL
end

section
namespace DL
open PySem
section
variable {X : Exn → Ro → Prop} {r : Ro}
end
end DL
end

section
namespace DL
open PySem
section
variable {X : Exn → Ro → Prop} {r : Ro}
end
end DL
end

section
namespace DL
open PySem
end DL
end

section
namespace DL
open PySem
end DL
end

section
namespace DL
open PySem
section
variable {X : Exn → Ro → Prop} {r : Ro}
end
end DL
end

section
namespace DL
open PySem
section
variable {X : Exn → Ro → Prop} {r : Ro}
end
end DL
end

section
namespace DL
open PySem
section
variable {r : Ro}
@[simp, simp ↓] theorem W_sRaise {c : String} {Q : SO → Ro → Prop} : W (sRaise c) r Q ↔ Q (.exc ⟨c, none⟩) r :=
  ⟨fun ⟨o, r2, e, q⟩ => (by cases e; exact q), fun q => ⟨_, _, rfl, q⟩⟩
section
variable {L : List String} {i j : Nat} {ms : String → M RV} {Q : SO → Ro → Prop} {r1 : Ro}
end
end
end DL
end

section
namespace DL
open PySem
section
variable {r : Ro}
end
end DL
end

section
namespace DL
open PySem
end DL
end

section
namespace DL
open PySem
end DL
end

section
namespace DL
open PySem
/-- small things: they can be shown -/
structure Tny (w k : Nat) (d : D) : Prop where
  lay : d.canLay0 = true
  dep : d.depth ≤ k
  sho : PyData.showable d = true
  lea : PyData.leavesShort 13 d = true
  wei : d.weight ≤ w
theorem Tny.sh {w k : Nat} {d : D} (h : Tny w k d) (hr : isRow d = true) (hk : k ≤ 40) (hw : w ≤ 2 ^ 20) : shOk d = true := by
  unfold shOk okE
  have a := h.dep
  have b := h.wei
  rw [hr, h.lay, h.sho, h.lea, decide_eq_true (show d.depth ≤ 40 by omega), decide_eq_true (show d.weight ≤ 2 ^ 20 by omega)]
  rfl
section
variable {X : Exn → Ro → Prop} {r : Ro}
end
end DL
end

section
namespace DL
open PySem
section
variable {X : Exn → Ro → Prop} {r : Ro}
@[simp, simp ↓] theorem putP_dT {i : Nat} {ds : List (List Ky × D)} {x : Sl} {Q : SO → Ro → Prop} : putP i (.new (.dT ds)) r Q (some x) ↔ putSl.pinnedB x = false ∧ setP r i (.own false (.dT ds)) (Q .nx) := Iff.rfl
end
end DL
end

section
namespace DL
open PySem
section
variable {X : Exn → Ro → Prop} {r : Ro}
end
end DL
end

section
namespace DL
open PySem
section
variable {X : Exn → Ro → Prop} {r : Ro}
theorem E_fDisp {a : AV} {d : D} {Q : RV → Ro → Prop} : E X (fDisp a d) r Q ↔ optP (keyAt r a) fun k => Q (.new (.dK [(k, d)])) r := by
  constructor
  · rintro ⟨o, r2, e, q⟩
    unfold fDisp at e
    split at e
    · rename_i k qk
      cases e
      exact ⟨k, qk, q⟩
    · cases e
  · rintro ⟨k, qk, q⟩
    refine ⟨.ok _, r, ?_, q⟩
    unfold fDisp
    rw [qk]
@[simp, simp ↓] theorem E_mDisp1 {mk : M AV} {mv : M RV} {Q : RV → Ro → Prop} : E X (mDisp1 mk mv) r Q ↔ E X mk r fun a r1 => E X mv r1 fun v r2 => optP v.data fun d => optP (keyAt r2 a) fun k => Q (.new (.dK [(k, d)])) r2 := by
  unfold mDisp1
  rw [E_bind]
  constructor
  · exact fun h => h.mono fun a r1 h => by
      rw [E_bind, E_mFz] at h
      exact h.mono fun v r2 ⟨d, e, q⟩ => ⟨d, e, E_fDisp.mp q⟩
  · exact fun h => h.mono fun a r1 h => by
      rw [E_bind, E_mFz]
      exact h.mono fun v r2 ⟨d, e, q⟩ => ⟨d, e, E_fDisp.mpr q⟩
end
end DL
end

section
namespace DL
open PySem
end DL
end

section
namespace DL
open PySem
end DL
end

section
namespace DL
open PySem
end DL
end

section
namespace DL
open PySem
end DL
end

section
namespace DL
open PySem
end DL
end

section
namespace DL
open PySem
end DL
end

section
namespace DL
open PySem
section
variable {X : Exn → Ro → Prop} {r : Ro}
end
theorem gMinDef_cons {x d : D} {xs : List D} (h : mmOk (x :: xs) = true) : gMinDef [.fz (.list (x :: xs)), .fz d] = some (.val (W.minD x xs)) := if_pos h
end DL
end

section
namespace DL
open PySem
def endTP (i : Nat) (Q : SO → Ro → Prop) (o : SO) (r : Ro) (t : Tok Q := .tok) : Prop := match o with
  | .nx => optP r[i]? fun z => putSl.pinnedB z = false ∧ setP r i .non (Q .nx)
  | .ret v => optP r[i]? fun z => putSl.pinnedB z = false ∧ setP r i .non (Q (.ret v))
  | _ => False
def trySP (L : List String) (i : Nat) (ms : String → S) (Q : SO → Ro → Prop) (o : SO) (r1 : Ro) (t : Tok Q := .tok) (u : Tok ms := .tok) : Prop := match o with
  | .exc x => x.row = none ∧ optP r1[i]? fun y => L.contains x.cls = true ∧ putSl.pinnedB y = false ∧ setP r1 i .non fun r1' => W (ms x.cls) r1' (fun o r => endTP i Q o r)
  | o => Q o r1
section
variable {L : List String} {i : Nat} {ms : String → S} {Q : SO → Ro → Prop} {r r1 : Ro}
@[simp, simp ↓] theorem endTP_nx : endTP i Q .nx r ↔ optP r[i]? fun z => putSl.pinnedB z = false ∧ setP r i .non (Q .nx) := Iff.rfl
@[simp, simp ↓] theorem endTP_ret {v : RV} : endTP i Q (.ret v) r ↔ optP r[i]? fun z => putSl.pinnedB z = false ∧ setP r i .non (Q (.ret v)) := Iff.rfl
@[simp, simp ↓] theorem trySP_nx : trySP L i ms Q .nx r1 ↔ Q .nx r1 := Iff.rfl
@[simp, simp ↓] theorem trySP_brk : trySP L i ms Q .brk r1 ↔ Q .brk r1 := Iff.rfl
@[simp, simp ↓] theorem trySP_cnt : trySP L i ms Q .cnt r1 ↔ Q .cnt r1 := Iff.rfl
@[simp, simp ↓] theorem trySP_ret {v : RV} : trySP L i ms Q (.ret v) r1 ↔ Q (.ret v) r1 := Iff.rfl
@[simp, simp ↓] theorem trySP_rets {k : Nat} : trySP L i ms Q (.rets k) r1 ↔ Q (.rets k) r1 := Iff.rfl
@[simp, simp ↓] theorem trySP_exc {x : Exn} : trySP L i ms Q (.exc x) r1 ↔ (x.row = none ∧ optP r1[i]? fun y => L.contains x.cls = true ∧ putSl.pinnedB y = false ∧ setP r1 i .non fun r1' => W (ms x.cls) r1' (fun o r => endTP i Q o r)) := Iff.rfl
@[simp, simp ↓] theorem W_sTryS {b : S} : W (sTryS b L i ms) r Q ↔ W b r fun o r1 => trySP L i ms Q o r1 := by
  constructor
  · rintro ⟨o, r2, e, q⟩
    unfold sTryS at e
    cases hb : b r with
    | none => rw [hb] at e; cases e
    | some z =>
      obtain ⟨o1, r1⟩ := z
      rw [hb] at e
      refine ⟨o1, r1, hb, ?_⟩
      cases o1 with
      | exc x =>
        simp only at e
        split at e
        · rename_i y hrow hy
          split at e
          · rename_i hc
            obtain ⟨c1, c2⟩ := hc
            unfold endTry at e
            split at e
            · rename_i r3 q3
              split at e
              · rename_i z hz
                split at e
                · rename_i hp
                  cases e
                  exact ⟨hrow, y, hy, c1, c2, .nx, r3, q3, z, hz, hp, q⟩
                · cases e
              · cases e
            · rename_i v r3 q3
              split at e
              · rename_i z hz
                split at e
                · rename_i hp
                  cases e
                  exact ⟨hrow, y, hy, c1, c2, .ret v, r3, q3, z, hz, hp, q⟩
                · cases e
              · cases e
            · cases e
          · cases e
        · cases e
      | nx => cases e; exact q
      | brk => cases e; exact q
      | cnt => cases e; exact q
      | ret v => cases e; exact q
      | rets k => cases e; exact q
  · rintro ⟨o1, r1, hb, q⟩
    cases o1 with
    | exc x =>
      obtain ⟨hrow, y, hy, c1, c2, o, r3, q3, q⟩ := q
      have q3 : ms x.cls (r1.set i .non) = some (o, r3) := q3
      cases o with
      | nx =>
        obtain ⟨z, hz, hp, q⟩ := q
        refine ⟨.nx, r3.set i .non, ?_, q⟩
        unfold sTryS
        rw [hb]
        simp only
        rw [hrow, hy]
        simp only
        rw [if_pos ⟨c1, c2⟩, q3]
        unfold endTry
        simp only
        rw [hz]
        simp only
        rw [if_pos hp]
      | ret v =>
        obtain ⟨z, hz, hp, q⟩ := q
        refine ⟨.ret v, r3.set i .non, ?_, q⟩
        unfold sTryS
        rw [hb]
        simp only
        rw [hrow, hy]
        simp only
        rw [if_pos ⟨c1, c2⟩, q3]
        unfold endTry
        simp only
        rw [hz]
        simp only
        rw [if_pos hp]
      | _ => exact q.elim
    | nx => exact ⟨_, _, by unfold sTryS; rw [hb], q⟩
    | brk => exact ⟨_, _, by unfold sTryS; rw [hb], q⟩
    | cnt => exact ⟨_, _, by unfold sTryS; rw [hb], q⟩
    | ret v => exact ⟨_, _, by unfold sTryS; rw [hb], q⟩
    | rets k => exact ⟨_, _, by unfold sTryS; rw [hb], q⟩
def callVP (X : Exn → Ro → Prop) (tbl : List (Str × Sem)) (ms : List (M AV)) (r : Ro) (Q : RV → Ro → Prop) (x : Option Sl) (t : Tok Q := .tok) (u : Tok ms := .tok) : Prop := match x with
  | some (.frz _ d) => optP ((fnName d).bind fun x => tbl.lookup x) fun f => E X (mCall f ms) r Q
  | _ => False
variable {X : Exn → Ro → Prop} {tbl : List (Str × Sem)} {mm : List (M AV)} {K : RV → Ro → Prop}
@[simp, simp ↓] theorem callVP_frz {b : Bool} {d : D} : callVP X tbl mm r K (some (.frz b d)) ↔ optP ((fnName d).bind fun x => tbl.lookup x) fun f => E X (mCall f mm) r K := Iff.rfl
@[simp] theorem fnName_fn {x : Str} : fnName (fnD x) = some x := rfl
@[simp, simp ↓] theorem E_mCallV : E X (mCallV i tbl mm) r K ↔ callVP X tbl mm r K r[i]? := by
  have no : mCallV i tbl mm r = none → ¬ E X (mCallV i tbl mm) r K := fun h => (E_no h).mp
  cases h : r[i]? with
  | none => exact ⟨fun q => (no (by unfold mCallV; rw [h]) q).elim, fun q => q.elim⟩
  | some x =>
    cases x with
    | frz b d =>
      rw [callVP_frz]
      cases hn : (fnName d).bind fun x => tbl.lookup x with
      | none => exact ⟨fun q => (no (by unfold mCallV; rw [h]; simp only [hn]) q).elim, fun q => by simp at q⟩
      | some f =>
        have e : mCallV i tbl mm r = mCall f mm r := by unfold mCallV; rw [h]; simp only [hn]
        rw [optP_some]
        unfold E
        rw [e]
    | _ => exact ⟨fun q => (no (by unfold mCallV; rw [h]) q).elim, fun q => q.elim⟩
end
end DL
end

section
namespace Lw
open PySem DL
/-- partner(end): slots 0:end -/
noncomputable def b_partner_1131 : S :=
    (sRet (mOp gSub [(oE (mOp gAdd [(oS 0), (oE (mC (.int 1)))])), (oE (mOp gMul [(oE (mC (.int 2))), (oE (mOp gMod [(oS 0), (oE (mC (.int 2)))]))]))]))
noncomputable def sem_partner_1131 : Sem := defSem 1 1 b_partner_1131
/-- _law_pen(_law_script): slots 0:_law_script 1:_law_cell -/
noncomputable def b_Lpen_3d2f : S :=
    (sRet (mOp gLst [(oE (mLc [1] (mRow (mSl (oS 0) none (some (oE (mC (.int 63)))))) (setN 1) mYes (mRd 1))), (oE (mC (.int 0))), (oE (mC (.int 0)))]))
noncomputable def sem_Lpen_3d2f : Sem := defSem 1 2 b_Lpen_3d2f
/-- _law_draw(_law_pen_here, _law_many): slots 0:_law_pen_here 1:_law_many 2:_law_at 3:_law_cell 4:_law_number 5:_law_digit -/
noncomputable def b_Ldraw_de5b : S :=
    (sSeq (sIf (mTst (mOp gGt [(oE (mOp gIx [(oS 0), (oE (mC (.int 2)))])), (oE (mC (.int 0)))])) (sSeq (sSet 5 (mOp gMod [(oE (mOp gIx [(oS 0), (oE (mC (.int 2)))])), (oS 1)]))
    (sSeq (sSub 0 (mOp gDiv [(oE (mOp gIx [(oS 0), (oE (mC (.int 2)))])), (oS 1)]) (oE (mC (.int 2))))
    (sRet (mRd 5)))) sNx)
    (sSeq (sSet 2 (mOp gIx [(oS 0), (oE (mC (.int 1)))]))
    (sSeq (sSub 0 (mOp gAdd [(oS 2), (oE (mC (.int 1)))]) (oE (mC (.int 1))))
    (sSeq (sSet 3 (mC (.int 11)))
    (sSeq (sIf (mTst (mOp gGt [(oE (mOp gLen [(oE (mOp gIx [(oS 0), (oE (mC (.int 0)))]))])), (oE (mC (.int 0)))])) (sSet 3 (mOp gIx [(oE (mOp gIx [(oS 0), (oE (mC (.int 0)))])), (oE (mOp gMod [(oS 2), (oE (mOp gLen [(oE (mOp gIx [(oS 0), (oE (mC (.int 0)))]))]))]))])) sNx)
    (sSeq (sIf (mAnd (mTst (mOp gLt [(oS 2), (oE (mOp gLen [(oE (mOp gIx [(oS 0), (oE (mC (.int 0)))]))]))])) (mTst (mOp gGe [(oE (mOp gAbs [(oS 3)])), (oE (mOp gPow [(oE (mC (.int 10))), (oE (mC (.int 18)))]))]))) (sSeq (sSub 0 (mOp gDiv [(oE (mOp gAbs [(oS 3)])), (oS 1)]) (oE (mC (.int 2))))
    (sRet (mOp gMod [(oE (mOp gAbs [(oS 3)])), (oS 1)]))) sNx)
    (sSeq (sSet 4 (mOp gMod [(oE (mOp gMul [(oE (mOp gAdd [(oE (mOp gAdd [(oE (mOp gMod [(oS 3), (oE (mC (.int 2147483647)))])), (oE (mOp gMul [(oE (mC (.int 69621))), (oS 2)]))])), (oE (mC (.int 13)))])), (oE (mC (.int 48271)))])), (oE (mC (.int 2147483629)))]))
    (sSeq (sSet 4 (mOp gMod [(oE (mOp gAdd [(oE (mOp gAdd [(oE (mOp gMul [(oS 4), (oS 4)])), (oE (mOp gMul [(oE (mC (.int 40692))), (oS 4)]))])), (oS 2)])), (oE (mC (.int 2147483587)))]))
    (sRet (mOp gMod [(oE (mOp gDiv [(oE (mOp gMod [(oE (mOp gMul [(oS 4), (oE (mC (.int 16807)))])), (oE (mC (.int 2147483563)))])), (oE (mC (.int 32)))])), (oS 1)]))))))))))
noncomputable def sem_Ldraw_de5b : Sem := defSem 2 6 b_Ldraw_de5b
/-- _law_web(_law_pen_here, _law_places, _law_ties): slots 0:_law_pen_here 1:_law_places 2:_law_ties 3:_law_many 4:_law_way 5:_law_count 6:_law_found 7:_law_k 8:_law_a 9:_law_b -/
noncomputable def b_Lweb_0350 : S :=
    (sSeq (sSet 3 (mOp gAdd [(oE (mC (.int 1))), (oE (mCall sem_Ldraw_de5b [(oS 0), (oS 1)]))]))
    (sSeq (sSet 4 (mCall sem_Ldraw_de5b [(oS 0), (oE (mC (.int 6)))]))
    (sSeq (sSet 5 (mCall sem_Ldraw_de5b [(oS 0), (oE (mOp gAdd [(oS 2), (oE (mC (.int 1)))]))]))
    (sSeq (sIf (mTst (mOp gEq [(oS 4), (oE (mC (.int 5)))])) (sSeq (sSet 3 (mRd 1))
    (sSet 5 (mRd 2))) sNx)
    (sSeq (sSet 6 (mOp gLst []))
    (sSeq (sFor (mOpL gRng1 [(oS 5)]) (setN 7) (sSeq (sPar 8 9 (mCall sem_Ldraw_de5b [(oS 0), (oS 3)]) (mCall sem_Ldraw_de5b [(oS 0), (oS 3)]))
    (sSeq (sIf (mTst (mOp gEq [(oS 4), (oE (mC (.int 1)))])) (sPar 8 9 (mOp gMod [(oS 7), (oS 3)]) (mOp gMod [(oE (mOp gAdd [(oS 7), (oE (mC (.int 1)))])), (oS 3)])) sNx)
    (sSeq (sIf (mTst (mOp gEq [(oS 4), (oE (mC (.int 2)))])) (sSet 8 (mC (.int 0))) sNx)
    (sSeq (sIf (mTst (mOp gEq [(oS 4), (oE (mC (.int 3)))])) (sSet 9 (mOp gAdd [(oE (mOp gMod [(oS 8), (oE (mC (.int 2)))])), (oE (mOp gMul [(oE (mOp gDiv [(oS 9), (oE (mC (.int 2)))])), (oE (mC (.int 2)))]))])) sNx)
    (sSeq (sIf (mAnd (mTst (mOp gEq [(oS 4), (oE (mC (.int 4)))])) (mTst (mOp gEq [(oE (mOp gMod [(oS 9), (oE (mC (.int 2)))])), (oE (mC (.int 0)))]))) (sSet 9 (mRd 8)) sNx)
    (sDrop (mMut gAppend 6 [(oE (mOp gTup [(oE (mRd 8)), (oE (mOp gMin2 [(oS 9), (oE (mOp gSub [(oS 3), (oE (mC (.int 1)))]))]))]))]))))))))
    (sRet (mOp gTup [(oE (mRd 3)), (oE (mOp gTuple [(oS 6)]))]))))))))
noncomputable def sem_Lweb_0350 : Sem := defSem 3 10 b_Lweb_0350
/-- _law_order(_law_pen_here, _law_web_here): slots 0:_law_pen_here 1:_law_web_here 2:_law_rows 3:_law_k 4:_law_row 5:_law_place -/
noncomputable def b_Lorder_8e8e : S :=
    (sSeq (sSet 2 (mLcL [5] (mOpL gRng1 [(oE (mOp gIx [(oS 1), (oE (mC (.int 0)))]))]) (setN 5) mYes (mOp gLst [])))
    (sSeq (sFor (mOpL gRng1 [(oE (mOp gMul [(oE (mC (.int 2))), (oE (mOp gLen [(oE (mOp gIx [(oS 1), (oE (mC (.int 1)))]))]))]))]) (setN 3) (sSeq (sAl 4 2 (oE (mOp gIx [(oE (mOp gIx [(oE (mOp gIx [(oS 1), (oE (mC (.int 1)))])), (oE (mOp gDiv [(oS 3), (oE (mC (.int 2)))]))])), (oE (mOp gMod [(oS 3), (oE (mC (.int 2)))]))])))
    (sDrop (mMut gInsert 4 [(oE (mOp gMin2 [(oE (mOp gLen [(oS 4)])), (oE (mOp gAdd [(oE (mC (.int 1))), (oE (mCall sem_Ldraw_de5b [(oS 0), (oE (mOp gMax2 [(oE (mC (.int 1))), (oE (mOp gLen [(oS 4)]))]))]))]))])), (oE (mRd 3))]))))
    (sRet (mOp gTuple [(oE (mLc [4] (mRow (mRd 2)) (setN 4) mYes (mOp gTuple [(oS 4)])))]))))
noncomputable def sem_Lorder_8e8e : Sem := defSem 2 6 b_Lorder_8e8e
/-- parts_by(many, ties): slots 0:many 1:ties 2:label 3:parts 4:place 5:a 6:b 7:low 8:high 9:first -/
noncomputable def b_parts_by_ccdf : S :=
    (sSeq (sSet 2 (mOp gLRng1 [(oS 0)]))
    (sSeq (sFor (mRow (mRd 1)) (setT [(setN 5), (setN 6)]) (sSeq (sSet 7 (mOp gMin2 [(oE (mOp gIx [(oS 2), (oS 5)])), (oE (mOp gIx [(oS 2), (oS 6)]))]))
    (sSeq (sSet 8 (mOp gMax2 [(oE (mOp gIx [(oS 2), (oS 5)])), (oE (mOp gIx [(oS 2), (oS 6)]))]))
    (sFor (mOpL gRng1 [(oS 0)]) (setN 4) (sIf (mTst (mOp gEq [(oE (mOp gIx [(oS 2), (oS 4)])), (oS 8)])) (sSub 2 (mRd 7) (oS 4)) sNx)))))
    (sSeq (sSet 3 mNewK)
    (sSeq (sFor (mOpL gRng1 [(oS 0)]) (setN 4) (sDrop (mSdA 3 4 (oE (mOp gIx [(oS 2), (oS 4)])))))
    (sRetDl 3 [9])))))
noncomputable def sem_parts_by_ccdf : Sem := defSem 2 10 b_parts_by_ccdf
/-- parts_of(web): slots 0:web -/
noncomputable def b_parts_of_a581 : S :=
    (sRet (mFzL (mCall sem_parts_by_ccdf [(oE (mOp gIx [(oS 0), (oE (mC (.int 0)))])), (oE (mOp gIx [(oS 0), (oE (mC (.int 1)))]))])))
noncomputable def sem_parts_of_a581 : Sem := defSem 1 1 b_parts_of_a581
/-- _law_parts(_law_web_here): slots 0:_law_web_here 1:_law_marks 2:_law_a 3:_law_b 4:_law_place 5:_law_low 6:_law_high 7:_law_first -/
noncomputable def b_Lparts_9bff : S :=
    (sSeq (sSet 1 (mOp gLRng1 [(oE (mOp gIx [(oS 0), (oE (mC (.int 0)))]))]))
    (sSeq (sFor (mRow (mOp gIx [(oS 0), (oE (mC (.int 1)))])) (setT [(setN 2), (setN 3)]) (sSeq (sPar 5 6 (mOp gMin2 [(oE (mOp gIx [(oS 1), (oS 2)])), (oE (mOp gIx [(oS 1), (oS 3)]))]) (mOp gMax2 [(oE (mOp gIx [(oS 1), (oS 2)])), (oE (mOp gIx [(oS 1), (oS 3)]))]))
    (sFor (mOpL gRng1 [(oE (mOp gIx [(oS 0), (oE (mC (.int 0)))]))]) (setN 4) (sIf (mTst (mOp gEq [(oE (mOp gIx [(oS 1), (oS 4)])), (oS 6)])) (sSub 1 (mRd 5) (oS 4)) sNx))))
    (sRet (mLc [7] (mRow (mOp gSortSet [(oS 1)])) (setN 7) mYes (mLc [4] (mOpL gRng1 [(oE (mOp gIx [(oS 0), (oE (mC (.int 0)))]))]) (setN 4) (mTst (mOp gEq [(oE (mOp gIx [(oS 1), (oS 4)])), (oS 7)])) (mRd 4))))))
noncomputable def sem_Lparts_9bff : Sem := defSem 1 8 b_Lparts_9bff
end Lw
end

section
namespace Lw
open PySem DL
end Lw
end

section
namespace Lw
open PySem DL
end Lw
end

section
namespace Lw
open PySem DL
end Lw
end

section
namespace Lw
open PySem DL
end Lw
end

section
namespace Lw
open PySem DL
/-- is_one_part(web): slots 0:web -/
noncomputable def b_is_one_part_3b38 : S :=
    (sRet (mOp gEq [(oE (mOp gLen [(oE (mCall sem_parts_of_a581 [(oS 0)]))])), (oE (mC (.int 1)))]))
noncomputable def sem_is_one_part_3b38 : Sem := defSem 1 1 b_is_one_part_3b38
end Lw
end

section
namespace Lw
open PySem DL
end Lw
end

section
namespace Lw
open PySem DL
/-- followers(web, order): slots 0:web 1:order 2:found 3:row 4:k 5:end -/
noncomputable def b_followers_13ce : S :=
    (sSeq (sSet 2 (mLc [5] (mOpL gRng1 [(oE (mOp gMul [(oE (mC (.int 2))), (oE (mOp gLen [(oE (mOp gIx [(oS 0), (oE (mC (.int 1)))]))]))]))]) (setN 5) mYes (mC (.int 0))))
    (sSeq (sFor (mRow (mRd 1)) (setN 3) (sFor (mOpL gRng1 [(oE (mOp gLen [(oS 3)]))]) (setN 4) (sSub 2 (mOp gIx [(oS 3), (oE (mOp gMod [(oE (mOp gAdd [(oS 4), (oE (mC (.int 1)))])), (oE (mOp gLen [(oS 3)]))]))]) (oE (mOp gIx [(oS 3), (oS 4)])))))
    (sRet (mRd 2))))
noncomputable def sem_followers_13ce : Sem := defSem 2 6 b_followers_13ce
/-- numbered(after, begin): slots 0:after 1:begin 2:found 3:met 4:end 5:here 6:there -/
noncomputable def b_numbered_8309 : S :=
    (sSeq (sSet 2 (mOp gLst [(oE (mRd 1))]))
    (sSeq (sSet 3 (mDisp1 (oS 1) (mC (.bool true))))
    (sSeq (sFor (mOpL gRng1 [(oE (mOp gLen [(oS 0)]))]) (setN 4) (sSeq (sSet 5 (mOp gIx [(oS 2), (oS 4)]))
    (sFor (mRow (mOp gTup [(oE (mCall sem_partner_1131 [(oS 5)])), (oE (mOp gIx [(oS 0), (oS 5)]))])) (setN 6) (sIf (mTst (mIn true 3 (oS 6))) (sSeq (sPut 3 (mC (.bool true)) (oS 6))
    (sDrop (mMut gAppend 2 [(oE (mRd 6))]))) sNx))))
    (sRet (mRd 2)))))
noncomputable def sem_numbered_8309 : Sem := defSem 2 7 b_numbered_8309
/-- coded(after, row): slots 0:after 1:row 2:numbers 3:k 4:end -/
noncomputable def b_coded_69cd : S :=
    (sSeq (sSet 2 (mLc [4] (mRow (mRd 1)) (setN 4) mYes (mC (.int 0))))
    (sSeq (sFor (mOpL gRng1 [(oE (mOp gLen [(oS 1)]))]) (setN 3) (sSub 2 (mRd 3) (oE (mOp gIx [(oS 1), (oS 3)]))))
    (sRet (mOp gTuple [(oE (mLc [4] (mRow (mRd 1)) (setN 4) mYes (mOp gTup [(oE (mOp gIx [(oS 2), (oE (mCall sem_partner_1131 [(oS 4)]))])), (oE (mOp gIx [(oS 2), (oE (mOp gIx [(oS 0), (oS 4)]))]))])))]))))
noncomputable def sem_coded_69cd : Sem := defSem 2 5 b_coded_69cd
/-- _law_one_part(_law_pen_here, _law_limit): slots 0:_law_pen_here 1:_law_limit 2:_law_count 3:_law_way 4:_law_many 5:_law_ties 6:_law_k 7:_law_a 8:_law_b -/
noncomputable def b_Lone_part_805b : S :=
    (sSeq (sSet 2 (mCall sem_Ldraw_de5b [(oS 0), (oE (mOp gAdd [(oS 1), (oE (mC (.int 1)))]))]))
    (sSeq (sSet 3 (mCall sem_Ldraw_de5b [(oS 0), (oE (mC (.int 5)))]))
    (sSeq (sSet 4 (mOp gMin2 [(oE (mC (.int 25))), (oE (mOp gAdd [(oE (mC (.int 1))), (oE (mCall sem_Ldraw_de5b [(oS 0), (oE (mOp gAdd [(oS 2), (oE (mC (.int 1)))]))]))]))]))
    (sSeq (sIf (mOr (mTst (mOp gEq [(oS 3), (oE (mC (.int 0)))])) (mTst (mOp gEq [(oS 3), (oE (mC (.int 2)))]))) (sSet 4 (mOp gAdd [(oE (mC (.int 1))), (oS 2)])) sNx)
    (sSeq (sIf (mTst (mOp gEq [(oS 3), (oE (mC (.int 1)))])) (sSet 4 (mOp gMax2 [(oE (mC (.int 1))), (oS 2)])) sNx)
    (sSeq (sSet 5 (mOp gLst []))
    (sSeq (sFor (mOpL gRng1 [(oS 2)]) (setN 6) (sSeq (sPar 7 8 (mCall sem_Ldraw_de5b [(oS 0), (oS 4)]) (mCall sem_Ldraw_de5b [(oS 0), (oS 4)]))
    (sSeq (sIf (mTst (mOp gLt [(oE (mOp gAdd [(oS 6), (oE (mC (.int 1)))])), (oS 4)])) (sPar 7 8 (mOp gIx [(oE (mOp gLst [(oE (mCall sem_Ldraw_de5b [(oS 0), (oE (mOp gAdd [(oS 6), (oE (mC (.int 1)))]))])), (oE (mRd 6)), (oE (mC (.int 0)))])), (oE (mOp gIx [(oE (mOp gLst [(oE (mC (.int 0))), (oE (mC (.int 1))), (oE (mC (.int 2))), (oE (mC (.int 0))), (oE (mC (.int 0)))])), (oS 3)]))]) (mOp gAdd [(oS 6), (oE (mC (.int 1)))])) (sIf (mTst (mOp gEq [(oS 3), (oE (mC (.int 1)))])) (sPar 7 8 (mOp gSub [(oS 4), (oE (mC (.int 1)))]) (mC (.int 0))) sNx))
    (sSeq (sIf (mTst (mOp gEq [(oE (mCall sem_Ldraw_de5b [(oS 0), (oE (mC (.int 2)))])), (oE (mC (.int 1)))])) (sPar 7 8 (mRd 8) (mRd 7)) sNx)
    (sDrop (mMut gInsert 5 [(oE (mCall sem_Ldraw_de5b [(oS 0), (oE (mOp gAdd [(oE (mOp gLen [(oS 5)])), (oE (mC (.int 1)))]))])), (oE (mOp gTup [(oE (mRd 7)), (oE (mRd 8))]))]))))))
    (sRet (mOp gTup [(oE (mRd 4)), (oE (mOp gTuple [(oS 5)]))])))))))))
noncomputable def sem_Lone_part_805b : Sem := defSem 2 9 b_Lone_part_805b
end Lw
end

section
namespace Lw
open PySem DL
/-- renamings(after, its_after): slots 0:after 1:its_after 2:row 3:due 4:found 5:end 6:its_row 7:names 8:k 9:one -/
noncomputable def b_renamings_c35d : S :=
    (sSeq (sIf (mTst (mOp gEq [(oS 0), (oE (mOp gLst []))])) (sRet (mOp gLst [(oE (mOp gTup []))])) sNx)
    (sSeq (sSet 2 (mCall sem_numbered_8309 [(oS 0), (oE (mC (.int 0)))]))
    (sSeq (sSet 3 (mCall sem_coded_69cd [(oS 0), (oS 2)]))
    (sSeq (sSet 4 (mOp gLst []))
    (sSeq (sFor (mOpL gRng1 [(oE (mOp gLen [(oS 1)]))]) (setN 5) (sSeq (sSet 6 (mCall sem_numbered_8309 [(oS 1), (oS 5)]))
    (sIf (mTst (mOp gEq [(oE (mCall sem_coded_69cd [(oS 1), (oS 6)])), (oS 3)])) (sSeq (sSet 7 (mLc [9] (mRow (mRd 2)) (setN 9) mYes (mC (.int 0))))
    (sSeq (sFor (mOpL gRng1 [(oE (mOp gLen [(oS 2)]))]) (setN 8) (sSub 7 (mOp gIx [(oS 6), (oS 8)]) (oE (mOp gIx [(oS 2), (oS 8)]))))
    (sDrop (mMut gAppend 4 [(oE (mOp gTuple [(oS 7)]))])))) sNx)))
    (sRetS 4))))))
noncomputable def sem_renamings_c35d : Sem := defSem 2 10 b_renamings_c35d
end Lw
end

section
namespace Lw
open PySem DL
/-- look_one_part(web): slots 0:web -/
noncomputable def b_look_one_part_304cR : S :=
    (sIf (mNot (mTst (mCall sem_is_one_part_3b38 [(oS 0)]))) (sRaise "Apart") sNx)
noncomputable def sem_look_one_part_304cR : Sem := defSem 1 1 b_look_one_part_304cR
/-- code_from(web, order, end): slots 0:web 1:order 2:end 3:after -/
noncomputable def b_code_from_7a97R : S :=
    (sSeq (sDrop (mCall sem_look_one_part_304cR [(oS 0)]))
    (sSeq (sSet 3 (mCall sem_followers_13ce [(oS 0), (oS 1)]))
    (sRet (mCall sem_coded_69cd [(oS 3), (oE (mCall sem_numbered_8309 [(oS 3), (oS 2)]))]))))
noncomputable def sem_code_from_7a97R : Sem := defSem 3 4 b_code_from_7a97R
/-- code(web, order): slots 0:web 1:order 2:after 3:end -/
noncomputable def b_code_8358R : S :=
    (sSeq (sDrop (mCall sem_look_one_part_304cR [(oS 0)]))
    (sSeq (sSet 2 (mCall sem_followers_13ce [(oS 0), (oS 1)]))
    (sRet (mOp gMinDef [(oE (mLc [3] (mOpL gRng1 [(oE (mOp gLen [(oS 2)]))]) (setN 3) mYes (mCall sem_coded_69cd [(oS 2), (oE (mCall sem_numbered_8309 [(oS 2), (oS 3)]))]))), (oE (mOp gTup []))]))))
noncomputable def sem_code_8358R : Sem := defSem 2 4 b_code_8358R
/-- alike(one, order, other, its_order): slots 0:one 1:order 2:other 3:its_order 4:found -/
noncomputable def b_alike_4846R : S :=
    (sSeq (sDrop (mCall sem_look_one_part_304cR [(oS 0)]))
    (sSeq (sDrop (mCall sem_look_one_part_304cR [(oS 2)]))
    (sSeq (sIf (mTst (mOp gNe [(oE (mOp gLen [(oE (mOp gIx [(oS 0), (oE (mC (.int 1)))]))])), (oE (mOp gLen [(oE (mOp gIx [(oS 2), (oE (mC (.int 1)))]))]))])) (sRet (mC .none)) sNx)
    (sSeq (sSet 4 (mCall sem_renamings_c35d [(oE (mCall sem_followers_13ce [(oS 0), (oS 1)])), (oE (mCall sem_followers_13ce [(oS 2), (oS 3)]))]))
    (sSeq (sIf (mTst (mOp gEq [(oS 4), (oE (mOp gLst []))])) (sRet (mC .none)) sNx)
    (sRet (mOp gIx [(oS 4), (oE (mC (.int 0)))])))))))
noncomputable def sem_alike_4846R : Sem := defSem 4 5 b_alike_4846R
/-- turnings(web, order): slots 0:web 1:order 2:after -/
noncomputable def b_turnings_9f26R : S :=
    (sSeq (sDrop (mCall sem_look_one_part_304cR [(oS 0)]))
    (sSeq (sSet 2 (mCall sem_followers_13ce [(oS 0), (oS 1)]))
    (sRet (mCall sem_renamings_c35d [(oS 2), (oS 2)]))))
noncomputable def sem_turnings_9f26R : Sem := defSem 2 3 b_turnings_9f26R
/-- _law_turnings(_law_asked): slots 0:_law_asked -/
noncomputable def b_Lturnings_e7f3R : S :=
    (sRet (mCall sem_turnings_9f26R [(oE (mOp gIx [(oS 0), (oE (mC (.int 0)))])), (oE (mOp gIx [(oS 0), (oE (mC (.int 1)))]))]))
noncomputable def sem_Lturnings_e7f3R : Sem := defSem 1 1 b_Lturnings_e7f3R
/-- _law_code_from(_law_asked): slots 0:_law_asked -/
noncomputable def b_Lcode_from_df70R : S :=
    (sRet (mCall sem_code_from_7a97R [(oE (mOp gIx [(oS 0), (oE (mC (.int 0)))])), (oE (mOp gIx [(oS 0), (oE (mC (.int 1)))])), (oE (mOp gIx [(oS 0), (oE (mC (.int 2)))]))]))
noncomputable def sem_Lcode_from_df70R : Sem := defSem 1 1 b_Lcode_from_df70R
/-- _law_code(_law_asked): slots 0:_law_asked -/
noncomputable def b_Lcode_e2cbR : S :=
    (sRet (mCall sem_code_8358R [(oE (mOp gIx [(oS 0), (oE (mC (.int 0)))])), (oE (mOp gIx [(oS 0), (oE (mC (.int 1)))]))]))
noncomputable def sem_Lcode_e2cbR : Sem := defSem 1 1 b_Lcode_e2cbR
/-- _law_alike(_law_asked): slots 0:_law_asked -/
noncomputable def b_Lalike_7b14R : S :=
    (sRet (mCall sem_alike_4846R [(oE (mOp gIx [(oS 0), (oE (mC (.int 0)))])), (oE (mOp gIx [(oS 0), (oE (mC (.int 1)))])), (oE (mOp gIx [(oS 0), (oE (mC (.int 2)))])), (oE (mOp gIx [(oS 0), (oE (mC (.int 3)))]))]))
noncomputable def sem_Lalike_7b14R : Sem := defSem 1 1 b_Lalike_7b14R
/-- _law_refusal(_law_call, _law_things): slots 0:_law_call 1:_law_things 2:e 3:_law_found 4:_law_k -/
noncomputable def b_Lrefusal_a658R : S :=
    (sSeq (sTryS (sDrop (mCallV 0 [("_law_alike", sem_Lalike_7b14R), ("_law_code", sem_Lcode_e2cbR), ("_law_code_from", sem_Lcode_from_df70R), ("_law_turnings", sem_Lturnings_e7f3R)] [(oE (mRd 1))])) ["Apart"] 2 (fun _ => (sSeq (sSet 3 (mOp gLst [(oE (mC (.bool false))), (oE (mC (.bool false))), (oE (mC (.bool false))), (oE (mC (.bool false)))])) (sSeq (sSet 3 (mOp gAdd [(oS 3), (oE (mOp gLst [(oE (mC (.bool false))), (oE (mC (.bool false))), (oE (mC (.bool false))), (oE (mC (.bool false)))]))])) (sSeq (sSet 3 (mOp gAdd [(oS 3), (oE (mOp gLst [(oE (mC (.bool false))), (oE (mC (.bool true))), (oE (mC (.bool false))), (oE (mC (.bool false)))]))])) (sSeq (sSet 3 (mOp gAdd [(oS 3), (oE (mOp gLst [(oE (mC (.bool false))), (oE (mC (.bool false))), (oE (mC (.bool false)))]))])) (sRet (mLc [4] (mOpL gRng1 [(oE (mC (.int 15)))]) (setN 4) (mTst (mOp gIx [(oS 3), (oS 4)])) (mRd 4)))))))))
    (sRet (mC .none)))
noncomputable def sem_Lrefusal_a658R : Sem := defSem 2 5 b_Lrefusal_a658R
/-- _law_due(_law_webs): slots 0:_law_webs 1:_law_web_here -/
noncomputable def b_Ldue_cbcf : S :=
    (sSeq (sIf (mTst (mOp gNe [(oE (mLc [1] (mRow (mRd 0)) (setN 1) (mTst (mOp gGt [(oE (mOp gLen [(oE (mCall sem_Lparts_9bff [(oS 1)]))])), (oE (mC (.int 1)))])) (mRd 1))), (oE (mOp gLst []))])) (sRet (mOp gLst [(oE (mC (.int 9)))])) sNx)
    (sRet (mC .none)))
noncomputable def sem_Ldue_cbcf : Sem := defSem 1 2 b_Ldue_cbcf
/-- law(_law_script): slots 0:_law_script 1:_law_pen_here 2:_law_webs 3:_law_orders 4:_law_k 5:_law_one 6:_law_other 7:_law_asked 8:_law_due_here 9:_law_j 10:_law_web_here 11:_law_end -/
noncomputable def b_law_716dR : S :=
    (sSeq (sSet 1 (mCall sem_Lpen_3d2f [(oS 0)]))
    (sSeq (sSet 2 (mLc [4] (mOpL gRng1 [(oE (mC (.int 2)))]) (setN 4) mYes (mOp gIx [(oE (mOp gLst [(oE (mCall sem_Lweb_0350 [(oS 1), (oE (mC (.int 25))), (oE (mC (.int 24)))])), (oE (mCall sem_Lone_part_805b [(oS 1), (oE (mC (.int 10)))]))])), (oE (mCall sem_Ldraw_de5b [(oS 1), (oE (mC (.int 2)))]))])))
    (sSeq (sSet 3 (mLc [10] (mRow (mRd 2)) (setN 10) mYes (mCall sem_Lorder_8e8e [(oS 1), (oS 10)])))
    (sSeq (sFor (mRow (mOp gLst [(oE (mOp gTup [(oE (mC (.int 0))), (oE (mC (.int 1)))])), (oE (mOp gTup [(oE (mC (.int 1))), (oE (mC (.int 0)))])), (oE (mOp gTup [(oE (mC (.int 0))), (oE (mC (.int 0)))]))])) (setT [(setN 5), (setN 6)]) (sSeq (sSet 7 (mOp gTup [(oE (mOp gIx [(oS 2), (oS 5)])), (oE (mOp gIx [(oS 3), (oS 5)])), (oE (mOp gIx [(oS 2), (oS 6)])), (oE (mOp gIx [(oS 3), (oS 6)]))]))
    (sIf (mTst (mOp gNe [(oE (mCall sem_Lrefusal_a658R [(oE (mC (fnD "_law_alike"))), (oS 7)])), (oE (mCall sem_Ldue_cbcf [(oE (mOp gLst [(oE (mOp gIx [(oS 2), (oS 5)])), (oE (mOp gIx [(oS 2), (oS 6)]))]))]))])) (sRet (mC (.bool false))) sNx)))
    (sSeq (sFor (mOpL gRng1 [(oE (mC (.int 2)))]) (setN 4) (sSeq (sSet 8 (mCall sem_Ldue_cbcf [(oE (mOp gLst [(oE (mOp gIx [(oS 2), (oS 4)]))]))]))
    (sSeq (sIf (mTst (mOp gNe [(oE (mCall sem_Lrefusal_a658R [(oE (mC (fnD "_law_code"))), (oE (mOp gTup [(oE (mOp gIx [(oS 2), (oS 4)])), (oE (mOp gIx [(oS 3), (oS 4)]))]))])), (oS 8)])) (sRet (mC (.bool false))) sNx)
    (sSeq (sIf (mTst (mOp gNe [(oE (mCall sem_Lrefusal_a658R [(oE (mC (fnD "_law_turnings"))), (oE (mOp gTup [(oE (mOp gIx [(oS 2), (oS 4)])), (oE (mOp gIx [(oS 3), (oS 4)]))]))])), (oS 8)])) (sRet (mC (.bool false))) sNx)
    (sFor (mOpL gRng1 [(oE (mOp gMul [(oE (mC (.int 4))), (oE (mOp gInt [(oE (mOp gGt [(oE (mOp gLen [(oE (mOp gIx [(oE (mOp gIx [(oS 2), (oS 4)])), (oE (mC (.int 1)))]))])), (oE (mC (.int 0)))]))]))]))]) (setN 9) (sSeq (sSet 11 (mCall sem_Ldraw_de5b [(oS 1), (oE (mOp gMul [(oE (mC (.int 2))), (oE (mOp gLen [(oE (mOp gIx [(oE (mOp gIx [(oS 2), (oS 4)])), (oE (mC (.int 1)))]))]))]))]))
    (sIf (mTst (mOp gNe [(oE (mCall sem_Lrefusal_a658R [(oE (mC (fnD "_law_code_from"))), (oE (mOp gTup [(oE (mOp gIx [(oS 2), (oS 4)])), (oE (mOp gIx [(oS 3), (oS 4)])), (oE (mRd 11))]))])), (oS 8)])) (sRet (mC (.bool false))) sNx)))))))
    (sRet (mC (.bool true))))))))
noncomputable def sem_law_716dR : Sem := defSem 1 12 b_law_716dR
end Lw
end

section
namespace Lw
theorem least {P : Nat → Prop} (h : ∃ n, P n) : ∃ n, P n ∧ ∀ m, m < n → ¬ P m := by
  obtain ⟨n, hn⟩ := h
  induction n using Nat.strongRecOn with
  | ind n ih =>
    by_cases h : ∃ m, m < n ∧ P m
    · obtain ⟨m, h1, h2⟩ := h
      exact ih m h1 h2
    · exact ⟨n, hn, fun m h1 h2 => h ⟨m, h1, h2⟩⟩
section
variable {α : Type}
def itr (f : α → α) : Nat → α → α
  | 0, x => x
  | n + 1, x => f (itr f n x)
theorem itr_add (f : α → α) (a b : Nat) (x : α) : itr f (a + b) x = itr f a (itr f b x) := by
  induction a with
  | zero => rw [Nat.zero_add]; rfl
  | succ a ih => rw [Nat.succ_add]; show f _ = f _; rw [ih]
/-- a step that keeps within P, one to one, and comes back within B steps -/
structure Stp (f : α → α) (P : α → Prop) (B : Nat) : Prop where
  cl : ∀ x, P x → P (f x)
  inj : ∀ x y, P x → P y → f x = f y → x = y
  ret : ∀ x, P x → ∃ n, 1 ≤ n ∧ n ≤ B ∧ itr f n x = x
open Classical in
noncomputable def per (f : α → α) (x : α) : Nat := if h : ∃ n, 1 ≤ n ∧ itr f n x = x then Classical.choose (least h) else 0
noncomputable def orb (f : α → α) (x : α) : List α := (List.range (per f x)).map fun n => itr f n x
theorem per_spec {f : α → α} {x : α} (h : ∃ n, 1 ≤ n ∧ itr f n x = x) : 1 ≤ per f x ∧ itr f (per f x) x = x ∧ ∀ m, 1 ≤ m → m < per f x → itr f m x ≠ x := by
  unfold per
  rw [dif_pos h]
  obtain ⟨⟨h1, h2⟩, h3⟩ := Classical.choose_spec (least h)
  exact ⟨h1, h2, fun m a b c => h3 m b ⟨a, c⟩⟩
variable {f : α → α} {P : α → Prop} {B : Nat}
theorem Stp.itr (s : Stp f P B) {x : α} (hx : P x) : ∀ n, P (itr f n x)
  | 0 => hx
  | n + 1 => s.cl _ (s.itr hx n)
theorem Stp.per (s : Stp f P B) {x : α} (hx : P x) : 1 ≤ per f x ∧ Lw.itr f (Lw.per f x) x = x ∧ ∀ m, 1 ≤ m → m < Lw.per f x → Lw.itr f m x ≠ x := by
  obtain ⟨n, h1, _, h2⟩ := s.ret x hx
  exact per_spec ⟨n, h1, h2⟩
theorem Stp.itr_inj (s : Stp f P B) {x y : α} (hx : P x) (hy : P y) : ∀ n, Lw.itr f n x = Lw.itr f n y → x = y
  | 0, h => h
  | n + 1, h => s.itr_inj hx hy n (s.inj _ _ (s.itr hx n) (s.itr hy n) h)
/-- the places of a round are unlike -/
theorem Stp.apart (s : Stp f P B) {x : α} (hx : P x) {i j : Nat} (hij : i < j) (hj : j < Lw.per f x) : Lw.itr f i x ≠ Lw.itr f j x := by
  intro h
  obtain ⟨_, _, h4⟩ := s.per hx
  have e : j = i + (j - i) := by omega
  rw [e, itr_add] at h
  exact h4 (j - i) (by omega) (by omega) (s.itr_inj hx (s.itr hx _) i h).symm
theorem itr_mul {x : α} {p : Nat} (h : itr f p x = x) : ∀ k, itr f (p * k) x = x
  | 0 => rfl
  | k + 1 => by rw [Nat.mul_succ, itr_add, h, itr_mul h k]
theorem Stp.mod (s : Stp f P B) {x : α} (hx : P x) (n : Nat) : Lw.itr f n x = Lw.itr f (n % Lw.per f x) x := by
  obtain ⟨h1, h2, _⟩ := s.per hx
  have e : n = n % Lw.per f x + Lw.per f x * (n / Lw.per f x) := (Nat.mod_add_div n _).symm
  conv => lhs; rw [e, itr_add, itr_mul h2]
theorem orb_len (x : α) : (orb f x).length = per f x := by simp [orb]
theorem orb_get {x : α} {n : Nat} (h : n < per f x) : (orb f x)[n]? = some (itr f n x) := by
  unfold orb
  rw [List.getElem?_map, List.getElem?_range h]
  rfl
theorem mem_orb (s : Stp f P B) {x y : α} (hx : P x) : y ∈ orb f x ↔ ∃ n, itr f n x = y := by
  unfold orb
  rw [List.mem_map]
  constructor
  · rintro ⟨n, _, h⟩; exact ⟨n, h⟩
  · rintro ⟨n, h⟩
    refine ⟨n % per f x, List.mem_range.mpr (Nat.mod_lt _ (s.per hx).1), ?_⟩
    rw [← s.mod hx, h]
theorem orb_nodup (s : Stp f P B) {x : α} (hx : P x) : (orb f x).Nodup := by
  unfold orb
  rw [List.nodup_iff_pairwise_ne, List.pairwise_map]
  refine List.Pairwise.imp_of_mem (R := (· < ·)) (fun {a b} ha hb hab => ?_) List.pairwise_lt_range
  exact s.apart hx hab (List.mem_range.mp hb)
theorem orb_P (s : Stp f P B) {x y : α} (hx : P x) (h : y ∈ orb f x) : P y := by
  obtain ⟨n, rfl⟩ := (mem_orb s hx).mp h
  exact s.itr hx n
theorem orb_symm (s : Stp f P B) {x y : α} (hx : P x) (h : y ∈ orb f x) : x ∈ orb f y := by
  have hy := orb_P s hx h
  obtain ⟨n, rfl⟩ := (mem_orb s hx).mp h
  obtain ⟨h1, h2, _⟩ := s.per hx
  refine (mem_orb s hy).mpr ⟨per f x * (n + 1) - n, ?_⟩
  have : n ≤ per f x * (n + 1) := Nat.le_trans (Nat.le_succ n) (Nat.le_mul_of_pos_left _ h1)
  rw [← itr_add, Nat.sub_add_cancel this, itr_mul h2]
theorem orb_trans (s : Stp f P B) {x y z : α} (hx : P x) (h1 : y ∈ orb f x) (h2 : z ∈ orb f y) : z ∈ orb f x := by
  obtain ⟨n, rfl⟩ := (mem_orb s hx).mp h1
  obtain ⟨m, rfl⟩ := (mem_orb s (orb_P s hx h1)).mp h2
  exact (mem_orb s hx).mpr ⟨m + n, itr_add ..⟩
theorem orb_disj (s : Stp f P B) {x y z : α} (hx : P x) (hy : P y) (h1 : z ∈ orb f x) (h2 : z ∈ orb f y) : y ∈ orb f x := orb_trans s hx h1 (orb_symm s hy h2)
end
/-- pigeonhole: a one-to-one step on [0, N) comes back -/
theorem nodup_len : ∀ (n : Nat) (l : List Nat), l.Nodup → (∀ x ∈ l, x < n) → l.length ≤ n
  | 0, [], _, _ => Nat.le_refl _
  | 0, x :: l, _, h => absurd (h x (by simp)) (by omega)
  | n + 1, l, hn, h => by
    have h1 := nodup_len n (l.filter (· ≠ n)) (hn.filter _) (fun x hx => by
      obtain ⟨h1, h2⟩ := List.mem_filter.mp hx
      have := h x h1
      simp at h2
      omega)
    have h2 : l.length = (l.filter (· ≠ n)).length + (l.filter (fun x => !decide (x ≠ n))).length := by
      rw [← List.countP_eq_length_filter, ← List.countP_eq_length_filter]
      have h := List.length_eq_countP_add_countP (fun x => decide (x ≠ n)) (l := l)
      rw [h]
      congr 1
      exact List.countP_congr fun x _ => by by_cases hx : x = n <;> simp [hx]
    have h3 : (l.filter (fun x => !decide (x ≠ n))).length ≤ 1 := by
      have e : l.filter (fun x => !decide (x ≠ n)) = l.filter (· == n) := List.filter_congr fun x _ => by by_cases hx : x = n <;> simp [hx]
      rw [e, ← List.countP_eq_length_filter]
      exact List.nodup_iff_count.mp hn n
    omega
theorem stp_of {α : Type} {f : α → α} {P : α → Prop} {N : Nat} (code : α → Nat) (hc : ∀ x, P x → code x < N) (hi : ∀ x y, P x → P y → code x = code y → x = y) (cl : ∀ x, P x → P (f x)) (inj : ∀ x y, P x → P y → f x = f y → x = y) : Stp f P N := by
  have it : ∀ x, P x → ∀ n, P (itr f n x) := fun x hx n => by
    induction n with
    | zero => exact hx
    | succ n ih => exact cl _ ih
  have itinj : ∀ x y, P x → P y → ∀ n, itr f n x = itr f n y → x = y := fun x y hx hy n => by
    induction n with
    | zero => exact id
    | succ n ih => exact fun h => ih (inj _ _ (it x hx n) (it y hy n) h)
  refine ⟨cl, inj, fun x hx => ?_⟩
  apply Classical.byContradiction
  intro hno
  have hl := nodup_len N ((List.range (N + 1)).map fun n => code (itr f n x)) (by
    rw [List.nodup_iff_pairwise_ne, List.pairwise_map]
    refine List.Pairwise.imp_of_mem (R := (· < ·)) (fun {a b} ha hb hab h => ?_) List.pairwise_lt_range
    have e := hi _ _ (it x hx a) (it x hx b) h
    have e2 : b = a + (b - a) := by omega
    rw [e2, itr_add] at e
    have := itinj _ _ hx (it x hx _) a e
    exact hno ⟨b - a, by omega, by have := List.mem_range.mp hb; omega, this.symm⟩) (fun y hy => by
    obtain ⟨n, _, rfl⟩ := List.mem_map.mp hy
    exact hc _ (it x hx n))
  simp at hl
  omega
end Lw
end

section
namespace Lw
open Classical in
noncomputable def cnt (N : Nat) (P : Nat → Prop) : Nat := ((List.range N).filter fun x => decide (P x)).length
/-- classes that become one -/
structure Eqv (N : Nat) (R : Nat → Nat → Prop) : Prop where
  rf : ∀ x, x < N → R x x
  sy : ∀ x y, x < N → y < N → R x y → R y x
  tr : ∀ x y z, x < N → y < N → z < N → R x y → R y z → R x z
theorem Eqv.low {N : Nat} {R : Nat → Nat → Prop} (e : Eqv N R) {a : Nat} (ha : a < N) : ∃ l, l < N ∧ R a l ∧ ∀ y, y < N → R a y → l ≤ y := by
  obtain ⟨l, ⟨h1, h2⟩, h3⟩ := least (P := fun l => l < N ∧ R a l) ⟨a, ha, e.rf a ha⟩
  refine ⟨l, h1, h2, fun y hy hr => ?_⟩
  by_cases h : y < l
  · exact absurd ⟨hy, hr⟩ (h3 y h)
  · omega
def SOr (f : Nat → Nat) (x y : Nat) : Prop := ∃ n, itr f n x = y
section
variable {f : Nat → Nat} {N B : Nat}
def swp (a b x : Nat) : Nat := if x = a then b else if x = b then a else x
theorem swp_a (a b : Nat) : swp a b a = b := by simp [swp]
theorem swp_b (a b : Nat) : swp a b b = a := by unfold swp; split <;> simp_all
theorem swp_o {a b x : Nat} (h : x ≠ a) (h2 : x ≠ b) : swp a b x = x := by simp [swp, h, h2]
theorem swp_swp (a b x : Nat) : swp a b (swp a b x) = x := by
  by_cases h : x = a
  · subst h; rw [swp_a, swp_b]
  · by_cases h2 : x = b
    · subst h2; rw [swp_b, swp_a]
    · rw [swp_o h h2, swp_o h h2]
theorem swp_lt {a b x N : Nat} (ha : a < N) (hb : b < N) (hx : x < N) : swp a b x < N := by
  unfold swp
  split
  · exact hb
  · split
    · exact ha
    · exact hx
/-- two things exchanged ahead of the step -/
def fsw (f : Nat → Nat) (a b : Nat) : Nat → Nat := fun x => f (swp a b x)
theorem fsw_stp (s : Stp f (· < N) B) {a b : Nat} (ha : a < N) (hb : b < N) : Stp (fsw f a b) (· < N) N := by
  refine stp_of id (fun x h => h) (fun x y _ _ h => h) (fun x hx => s.cl _ (swp_lt ha hb hx)) fun x y hx hy h => ?_
  have := s.inj _ _ (swp_lt ha hb hx) (swp_lt ha hb hy) h
  have := congrArg (swp a b) this
  rwa [swp_swp, swp_swp] at this
end
end Lw
end

section
namespace Lw
def pt2 (x : Nat) : Nat := swp (2 * (x / 2)) (2 * (x / 2) + 1) x
/-- the step, the first k ties gone along -/
def fK (σ : Nat → Nat) (k : Nat) (x : Nat) : Nat := σ (if x / 2 < k then pt2 x else x)
theorem fK_zero (σ : Nat → Nat) : fK σ 0 = σ := by
  funext x
  simp [fK]
theorem fK_succ (σ : Nat → Nat) (k : Nat) : fK σ (k + 1) = fsw (fK σ k) (2 * k) (2 * k + 1) := by
  funext x
  show σ _ = fK σ k (swp (2 * k) (2 * k + 1) x)
  by_cases h1 : x = 2 * k
  · subst h1
    rw [swp_a, if_pos (by omega)]
    unfold fK pt2
    rw [if_neg (by omega), show 2 * (2 * k / 2) = 2 * k by omega, swp_a]
  · by_cases h2 : x = 2 * k + 1
    · subst h2
      rw [swp_b, if_pos (by omega)]
      unfold fK pt2
      rw [if_neg (by omega), show 2 * ((2 * k + 1) / 2) = 2 * k by omega, swp_b]
    · rw [swp_o h1 h2]
      unfold fK
      by_cases h3 : x / 2 < k
      · rw [if_pos h3, if_pos (by omega)]
      · rw [if_neg h3, if_neg (by omega)]
/-- places that hang together by the first k ties -/
structure Hang (n m : Nat) (pl : Nat → Nat) (R : Nat → Nat → Nat → Prop) : Prop where
  eqv : ∀ k, k ≤ n → Eqv m (R k)
  zero : ∀ x y, x < m → y < m → (R 0 x y ↔ x = y)
  succ : ∀ k, k < n → ∀ x y, x < m → y < m → (R (k + 1) x y ↔ R k x y ∨ (R k x (pl (2 * k)) ∧ R k (pl (2 * k + 1)) y) ∨ (R k x (pl (2 * k + 1)) ∧ R k (pl (2 * k)) y))
section
variable {σ pl : Nat → Nat} {n m B : Nat} {R : Nat → Nat → Nat → Prop} {A : Nat → Prop}
theorem pt2_lt {x : Nat} (h : x < 2 * n) : pt2 x < 2 * n := swp_lt (by omega) (by omega) h
theorem fK_stp (s : Stp σ (· < 2 * n) B) : ∀ k, k ≤ n → Stp (fK σ k) (· < 2 * n) (max B (2 * n))
  | 0, _ => by
    rw [fK_zero]
    exact ⟨s.cl, s.inj, fun x hx => by obtain ⟨i, h1, h2, h3⟩ := s.ret x hx; exact ⟨i, h1, by omega, h3⟩⟩
  | k + 1, h => by
    rw [fK_succ]
    have := fsw_stp (fK_stp s k (by omega)) (a := 2 * k) (b := 2 * k + 1) (by omega) (by omega)
    exact ⟨this.cl, this.inj, fun x hx => by obtain ⟨i, h1, h2, h3⟩ := this.ret x hx; exact ⟨i, h1, by omega, h3⟩⟩
theorem Hang.tie (h : Hang n m pl R) (hp : ∀ x, x < 2 * n → pl x < m) : ∀ k, k ≤ n → ∀ j, j < k → R k (pl (2 * j)) (pl (2 * j + 1))
  | k + 1, hk, j, hj => by
    have h0 := hp (2 * j) (by omega)
    have h1 := hp (2 * j + 1) (by omega)
    rw [h.succ k (by omega) _ _ h0 h1]
    by_cases e : j = k
    · subst e
      exact .inr (.inl ⟨(h.eqv j (by omega)).rf _ h0, (h.eqv j (by omega)).rf _ h1⟩)
    · exact .inl (h.tie hp k (by omega) j (by omega))
/-- a step keeps within what hangs together -/
theorem Hang.step (h : Hang n m pl R) (s : Stp σ (· < 2 * n) B) (hp : ∀ x, x < 2 * n → pl x < m) (hs : ∀ x, x < 2 * n → pl (σ x) = pl x) {k : Nat} (hk : k ≤ n) {x : Nat} (hx : x < 2 * n) : R k (pl x) (pl (fK σ k x)) := by
  have e := h.eqv k hk
  unfold fK
  split
  · rename_i hlt
    rw [hs _ (pt2_lt hx)]
    have ht := h.tie hp k hk (x / 2) hlt
    have h0 := hp (2 * (x / 2)) (by omega)
    have h1 := hp (2 * (x / 2) + 1) (by omega)
    unfold pt2
    by_cases e1 : x = 2 * (x / 2)
    · have : swp (2 * (x / 2)) (2 * (x / 2) + 1) x = 2 * (x / 2) + 1 := by unfold swp; rw [if_pos e1]
      rw [this]
      rw [← e1] at ht ⊢
      exact ht
    · have e2 : x = 2 * (x / 2) + 1 := by omega
      have : swp (2 * (x / 2)) (2 * (x / 2) + 1) x = 2 * (x / 2) := by unfold swp; rw [if_neg e1, if_pos e2]
      rw [this]
      have ht := e.sy _ _ h0 h1 ht
      rw [← e2] at ht
      exact ht
  · rw [hs x hx]
    exact e.rf _ (hp x hx)
theorem Hang.so (h : Hang n m pl R) (s : Stp σ (· < 2 * n) B) (hp : ∀ x, x < 2 * n → pl x < m) (hs : ∀ x, x < 2 * n → pl (σ x) = pl x) {k : Nat} (hk : k ≤ n) {x y : Nat} (hx : x < 2 * n) (hxy : SOr (fK σ k) x y) : R k (pl x) (pl y) := by
  have e := h.eqv k hk
  have s' := fK_stp s k hk
  obtain ⟨i, rfl⟩ := hxy
  induction i with
  | zero => exact e.rf _ (hp x hx)
  | succ i ih => exact e.tr _ _ _ (hp _ hx) (hp _ (s'.itr hx i)) (hp _ (s'.itr hx (i + 1))) ih (h.step s hp hs hk (s'.itr hx i))
end
end Lw
end

section
namespace Lw
open PySem DL
theorem partner_ok {e : Int} (h : 0 ≤ e ∧ e ≤ 1000000) : Oks sem_partner_1131 [.fz (.int e)] fun v ys => v = .ok (.val (.int (e + 1 - 2 * (e % 2)))) ∧ ys = [.fz (.int e)] := by
  refine oks_def rfl ?_
  have : SmM 2 (e % 2) := smM_of (by omega) (by omega)
  simp [b_partner_1131, this]
/-- a pen: cells, a count, digits -/
structure Pen (n : Nat) (p : List D) : Prop where
  ex : ∃ (cs : List Int) (a g : Int), p = [.list (cs.map .int), .int a, .int g] ∧ 0 ≤ a ∧ a ≤ n ∧ 0 ≤ g ∧ cs.length ≤ 63
theorem ixP_map {cs : List Int} {i : Int} (h0 : 0 ≤ i) (h1 : i < cs.length) : ∃ c, ixP (cs.map .int) i = some (.int c) := by
  refine ⟨cs[i.toNat]'(by omega), ixP_pos h0 ?_⟩
  rw [List.getElem?_map, List.getElem?_eq_getElem (by omega)]
  rfl
set_option maxHeartbeats 1000000 in
theorem draw_ok {n : Nat} {p : List D} {m : Int} (hp : Pen n p) (hn : n ≤ 1000000) (hm : 1 ≤ m ∧ m ≤ 1000000) :
    Oks sem_Ldraw_de5b [.ow (.lst p), .fz (.int m)] fun v ys => ∃ r p', v = .ok (.val (.int r)) ∧ ys = [.ow (.lst p'), .fz (.int m)] ∧ 0 ≤ r ∧ r < m ∧ Pen (n + 1) p' := by
  obtain ⟨cs, a, g, rfl, ha, hn2, hg, hcs⟩ := hp.ex
  refine oks_def rfl ?_
  have m0 : 0 < m := by omega
  have pow : (10 : Int) ^ 18 = 1000000000000000000 := by decide
  have mm : SmD m := smD_of (by omega)
  have r0 : ∀ x : Int, 0 ≤ x % m := fun x => Int.emod_nonneg _ (by omega)
  have r1 : ∀ x : Int, x % m < m := fun x => Int.emod_lt_of_pos _ m0
  by_cases hg0 : 0 < g
  · simp [b_Ldraw_de5b, hg0, -getElem?_pos, -getElem?_neg, List.getElem?_cons_zero, List.getElem?_cons_succ, m0, mm, r0, r1]
    exact ⟨cs, a, g / m, rfl, ha, by omega, Int.ediv_nonneg hg (by omega), hcs⟩
  · have s1 : SmM 69621 a := smM_of (by omega) (by omega)
    have s2 : ∀ c : Int, SmM (c % 2147483647 + 69621 * a + 13) 48271 := fun c => smM_of (by omega) (by omega)
    have key : ∀ x : Int, 0 ≤ x % 2147483629 ∧ x % 2147483629 < 2147483629 := fun x => by omega
    have s3 : ∀ x : Int, SmM (x % 2147483629) (x % 2147483629) := fun c => smM_of (by omega) (by omega)
    have s4 : ∀ x : Int, SmM 40692 (x % 2147483629) := fun c => smM_of (by omega) (by omega)
    have s5 : ∀ x : Int, SmM (x % 2147483587) 16807 := fun c => smM_of (by omega) (by omega)
    have s6 : SmD 32 := smD_of (by omega)
    have pen1 : ∀ g', 0 ≤ g' → Pen (n + 1) [.list (cs.map .int), .int (a + 1), .int g'] := fun g' h => ⟨cs, a + 1, g', rfl, by omega, by omega, h, hcs⟩
    by_cases hl : 0 < cs.length
    · obtain ⟨c, hc⟩ := ixP_map (cs := cs) (i := a % cs.length) (Int.emod_nonneg _ (by omega)) (Int.emod_lt_of_pos _ (by omega))
      by_cases h2 : a < cs.length ∧ 10 ^ 18 ≤ (if c < 0 then -c else c)
      · have h2' := h2.2
        rw [pow] at h2'
        simp [b_Ldraw_de5b, hg0, -getElem?_pos, -getElem?_neg, List.getElem?_cons_zero, List.getElem?_cons_succ, m0, mm, r0, r1, s1, s2, s3, s4, s5, s6, hl, hc, h2.1, h2', pow]
        exact pen1 _ (Int.ediv_nonneg (by omega) (by omega))
      · by_cases h3 : a < cs.length
        · have h2' : ¬ 1000000000000000000 ≤ (if c < 0 then -c else c) := fun h => h2 ⟨h3, by rw [pow]; exact h⟩
          simp [b_Ldraw_de5b, hg0, -getElem?_pos, -getElem?_neg, List.getElem?_cons_zero, List.getElem?_cons_succ, m0, mm, r0, r1, s1, s2, s3, s4, s5, s6, hl, hc, h3, h2', pow]
          exact pen1 _ hg
        · simp [b_Ldraw_de5b, hg0, -getElem?_pos, -getElem?_neg, List.getElem?_cons_zero, List.getElem?_cons_succ, m0, mm, r0, r1, s1, s2, s3, s4, s5, s6, hl, hc, h3]
          exact pen1 _ hg
    · have hl2 : cs.length = 0 := by omega
      have h3 : ¬ a < 0 := by omega
      have s2' : SmM (11 + 69621 * a + 13) 48271 := smM_of (by omega) (by omega)
      simp [b_Ldraw_de5b, hg0, -getElem?_pos, -getElem?_neg, List.getElem?_cons_zero, List.getElem?_cons_succ, m0, mm, r0, r1, s1, s2, s2', s3, s4, s5, s6, hl, hl2, h3]
      exact pen1 _ hg
end Lw
end

section
namespace Lw
open PySem DL
theorem cut63 {ns : List Int} (h : ns.length ≤ 63) : cutD ns none (some 63) = ns := by
  have : sIxD ns.length ns.length (some 63) = ns.length := by
    unfold sIxD
    simp
    omega
  unfold cutD
  rw [this]
  simp [sIxD]
theorem pen_ok {ns : List Int} (h : ns.length ≤ 63) : Oks sem_Lpen_3d2f [.fz (.dict ((.none, .none) :: ns.map fun n => (.int n, .none)))] fun v ys => ∃ p, v = .ok (.new (.lst p)) ∧ ys = [.fz (.dict ((.none, .none) :: ns.map fun n => (.int n, .none)))] ∧ Pen 0 p := by
  refine oks_def rfl ?_
  simp [b_Lpen_3d2f, -getElem?_pos, -getElem?_neg, List.getElem?_cons_zero, List.getElem?_cons_succ, cut63 h, anyPin]
  refine lcK_map id (fun d _ => ?_) (by simp [lineD]; omega) ?_
  · simp [-getElem?_pos, -getElem?_neg, List.getElem?_cons_zero, List.getElem?_cons_succ]
  · simp
    exact ⟨ns, 0, 0, rfl, by omega, by omega, by omega, h⟩
end Lw
end

section
namespace Lw
open PySem DL
def tieD (t : Int × Int) : D := .tuple [.int t.1, .int t.2]
def webD (m : Int) (ts : List (Int × Int)) : D := .tuple [.int m, .tuple (ts.map tieD)]
def TiesOk (m : Int) (ts : List (Int × Int)) : Prop := ∀ t ∈ ts, (0 ≤ t.1 ∧ t.1 < m) ∧ 0 ≤ t.2 ∧ t.2 < m
structure Web (N T : Nat) (m : Int) (ts : List (Int × Int)) : Prop where
  m1 : 1 ≤ m
  mN : m ≤ N
  len : ts.length ≤ T
  ok : TiesOk m ts
/-- the slots in the loop of _law_web -/
def WebI (n : Nat) (pl ti m way ct : Int) (k : Nat) (r : Ro) : Prop := ∃ p ts x7 x8 x9, r = [.own true (.lst p), .frz false (.int pl), .frz false (.int ti), .frz false (.int m), .frz false (.int way), .frz false (.int ct), .own false (.lst (ts.map tieD)), x7, x8, x9]
  ∧ Pen (n + 2 * k) p ∧ ts.length = k ∧ TiesOk m ts ∧ Fr x7 ∧ Fr x8 ∧ Fr x9
theorem TiesOk.snoc {m : Int} {ts : List (Int × Int)} {t : Int × Int} (h : TiesOk m ts) (ht : (0 ≤ t.1 ∧ t.1 < m) ∧ 0 ≤ t.2 ∧ t.2 < m) : TiesOk m (ts ++ [t]) := fun u hu => by
  rcases List.mem_append.mp hu with h1 | h1
  · exact h u h1
  · rw [List.mem_singleton.mp h1]; exact ht
noncomputable def webBody : S := sSeq (sPar 8 9 (mCall sem_Ldraw_de5b [(oS 0), (oS 3)]) (mCall sem_Ldraw_de5b [(oS 0), (oS 3)]))
    (sSeq (sIf (mTst (mOp gEq [(oS 4), (oE (mC (.int 1)))])) (sPar 8 9 (mOp gMod [(oS 7), (oS 3)]) (mOp gMod [(oE (mOp gAdd [(oS 7), (oE (mC (.int 1)))])), (oS 3)])) sNx)
    (sSeq (sIf (mTst (mOp gEq [(oS 4), (oE (mC (.int 2)))])) (sSet 8 (mC (.int 0))) sNx)
    (sSeq (sIf (mTst (mOp gEq [(oS 4), (oE (mC (.int 3)))])) (sSet 9 (mOp gAdd [(oE (mOp gMod [(oS 8), (oE (mC (.int 2)))])), (oE (mOp gMul [(oE (mOp gDiv [(oS 9), (oE (mC (.int 2)))])), (oE (mC (.int 2)))]))])) sNx)
    (sSeq (sIf (mAnd (mTst (mOp gEq [(oS 4), (oE (mC (.int 4)))])) (mTst (mOp gEq [(oE (mOp gMod [(oS 9), (oE (mC (.int 2)))])), (oE (mC (.int 0)))]))) (sSet 9 (mRd 8)) sNx)
    (sDrop (mMut gAppend 6 [(oE (mOp gTup [(oE (mRd 8)), (oE (mOp gMin2 [(oS 9), (oE (mOp gSub [(oS 3), (oE (mC (.int 1)))]))]))]))]))))))
set_option maxHeartbeats 4000000 in
theorem web_body {n : Nat} {pl ti m way ct : Int} {Q : SO → Ro → Prop} (hn : n ≤ 100000) (hm : 1 ≤ m ∧ m ≤ 1000) (hw : 0 ≤ way ∧ way < 6) {k : Nat} {r : Ro} (hk : k ≤ 1000) (h : WebI n pl ti m way ct k r) :
    W (setN 7 (.int k)) r (nxP webBody (loopP (WebI n pl ti m way ct (k + 1)) Q)) := by
  obtain ⟨p, ts, x7, x8, x9, rfl, hp, hl, ht, h7, h8, h9⟩ := h
  obtain ⟨o1, y1, e1, a, p1, rfl, rfl, a0, a1, hp1⟩ := draw_ok hp (by omega) (m := m) (by omega)
  obtain ⟨o2, y2, e2, b, p2, rfl, rfl, b0, b1, hp2⟩ := draw_ok hp1 (by omega) (m := m) (by omega)
  have hp3 : Pen (n + 2 * (k + 1)) p2 := hp2
  have m0 : 0 < m := by omega
  have lb : (lineD : Nat) = 16777216 := rfl
  have hk2 : ts.length < lineD := by unfold lineD; omega
  have fin : ∀ a b : Int, 0 ≤ a → a < m → 0 ≤ b → WebI n pl ti m way ct (k + 1) [.own true (.lst p2), .frz false (.int pl), .frz false (.int ti), .frz false (.int m), .frz false (.int way), .frz false (.int ct), .own false (.lst (ts.map tieD ++ [.tuple [.int a, .int (if m - 1 < b then m - 1 else b)]])), .frz false (.int k), .frz false (.int a), .frz false (.int b)] := fun a b h1 h2 h3 =>
    ⟨p2, ts ++ [(a, if m - 1 < b then m - 1 else b)], .frz false (.int k), .frz false (.int a), .frz false (.int b), by simp [tieD], hp3, by simp [hl], ht.snoc ⟨⟨h1, h2⟩, by dsimp only; split <;> omega, by dsimp only; split <;> omega⟩, .frz, .frz, .frz⟩
  have s1 : SmD 2 := smD_of (by omega)
  have s2 : SmM (b / 2) 2 := smM_of (by omega) (by omega)
  have ways : way = 0 ∨ way = 1 ∨ way = 2 ∨ way = 3 ∨ way = 4 ∨ way = 5 := by omega
  rcases ways with rfl | rfl | rfl | rfl | rfl | rfl
  · simp [webBody, -getElem?_pos, -getElem?_neg, List.getElem?_cons_zero, List.getElem?_cons_succ, h7.pin, h8.pin, h9.pin, h7.al, h8.al, h9.al, e1, e2, m0, hk2]
    exact fin a b a0 a1 b0
  · simp [webBody, -getElem?_pos, -getElem?_neg, List.getElem?_cons_zero, List.getElem?_cons_succ, h7.pin, h8.pin, h9.pin, h7.al, h8.al, h9.al, e1, e2, m0, hk2]
    exact fin (k % m) ((k + 1) % m) (Int.emod_nonneg _ (by omega)) (Int.emod_lt_of_pos _ m0) (Int.emod_nonneg _ (by omega))
  · simp [webBody, -getElem?_pos, -getElem?_neg, List.getElem?_cons_zero, List.getElem?_cons_succ, h7.pin, h8.pin, h9.pin, h7.al, h8.al, h9.al, e1, e2, m0, hk2]
    exact fin 0 b (by omega) (by omega) b0
  · simp [webBody, -getElem?_pos, -getElem?_neg, List.getElem?_cons_zero, List.getElem?_cons_succ, h7.pin, h8.pin, h9.pin, h7.al, h8.al, h9.al, e1, e2, m0, hk2, s1, s2]
    exact fin a (a % 2 + b / 2 * 2) a0 a1 (by omega)
  · by_cases hb : b % 2 = 0
    · simp [webBody, -getElem?_pos, -getElem?_neg, List.getElem?_cons_zero, List.getElem?_cons_succ, h7.pin, h8.pin, h9.pin, h7.al, h8.al, h9.al, e1, e2, m0, hk2, hb]
      exact fin a a a0 a1 a0
    · simp [webBody, -getElem?_pos, -getElem?_neg, List.getElem?_cons_zero, List.getElem?_cons_succ, h7.pin, h8.pin, h9.pin, h7.al, h8.al, h9.al, e1, e2, m0, hk2, hb]
      exact fin a b a0 a1 b0
  · simp [webBody, -getElem?_pos, -getElem?_neg, List.getElem?_cons_zero, List.getElem?_cons_succ, h7.pin, h8.pin, h9.pin, h7.al, h8.al, h9.al, e1, e2, m0, hk2]
    exact fin a b a0 a1 b0
end Lw
end

section
namespace Lw
open PySem DL
theorem web_tail {n : Nat} {pl ti m way ct : Int} {x7 x8 x9 : Sl} {p p0 : List D} (hn : n ≤ 90000) (hm : 1 ≤ m ∧ m ≤ 1000) (hw : 0 ≤ way ∧ way < 6) (hc : 0 ≤ ct ∧ ct ≤ 1000) (hp : Pen n p) (h7 : Fr x7) (h8 : Fr x8) (h9 : Fr x9)
    {P : EO RV → List Rs → Prop} (hP : ∀ ts p', ts.length = ct → TiesOk m ts → Pen (n + 2 * ct.toNat) p' → P (.ok (.val (webD m ts))) [.ow (.lst p'), .fz (.int pl), .fz (.int ti)]) :
    W (sFor (mOpL gRng1 [(oS 5)]) (setN 7) webBody) [.own true (.lst p), .frz false (.int pl), .frz false (.int ti), .frz false (.int m), .frz false (.int way), .frz false (.int ct), .own false (.lst []), x7, x8, x9]
      (thenP (sRet (mOp gTup [(oE (mRd 3)), (oE (mOp gTuple [(oS 6)]))])) (retP [.ow (.lst p0), .fz (.int pl), .fz (.int ti)] P)) := by
  have o1 : -4611686018427387904 ≤ ct := by omega
  have o2 : ct < 4611686018427387904 := by omega
  simp [-getElem?_pos, -getElem?_neg, List.getElem?_cons_zero, List.getElem?_cons_succ, o1, o2]
  refine forS_inv (WebI n pl ti m way ct) (rng 0 ct) 0 _ ?_ (fun k d r hd h => ?_) (fun r h => ?_)
  · exact ⟨p, [], x7, x8, x9, rfl, hp, rfl, fun _ h => (nomatch h), h7, h8, h9⟩
  · obtain ⟨rfl, hk⟩ := rng0_get hd
    rw [Nat.zero_add] at h ⊢
    exact web_body (by omega) hm hw (by omega) h
  · obtain ⟨p', ts, x7, x8, x9, rfl, hp, hl, ht, h7, h8, h9⟩ := h
    rw [rng0_len] at hl hp
    rw [Nat.zero_add] at hl hp
    have := hP ts p' (by omega) ht hp
    simp [-getElem?_pos, -getElem?_neg, List.getElem?_cons_zero, List.getElem?_cons_succ]
    exact this
set_option maxHeartbeats 4000000 in
theorem web_ok {n : Nat} {pl ti : Int} {p : List D} (hp : Pen n p) (hn : n ≤ 80000) (hpl : 1 ≤ pl ∧ pl ≤ 1000) (hti : 0 ≤ ti ∧ ti ≤ 999) :
    Oks sem_Lweb_0350 [.ow (.lst p), .fz (.int pl), .fz (.int ti)] fun v ys => ∃ m ts p', v = .ok (.val (webD m ts)) ∧ ys = [.ow (.lst p'), .fz (.int pl), .fz (.int ti)] ∧ Web pl.toNat ti.toNat m ts ∧ Pen (n + 2003) p' := by
  obtain ⟨o1, y1, e1, a, p1, rfl, rfl, a0, a1, hp1⟩ := draw_ok hp (by omega) (m := pl) (by omega)
  obtain ⟨o2, y2, e2, w, p2, rfl, rfl, w0, w1, hp2⟩ := draw_ok hp1 (by omega) (m := 6) (by omega)
  obtain ⟨o3, y3, e3, c, p3, rfl, rfl, c0, c1, hp3⟩ := draw_ok hp2 (by omega) (m := ti + 1) (by omega)
  have mono : ∀ {a b : Nat} {q : List D}, a ≤ b → Pen a q → Pen b q := fun h ⟨cs, a, g, e, h1, h2, h3, h4⟩ => ⟨cs, a, g, e, h1, by omega, h3, h4⟩
  refine oks_def rfl ?_
  by_cases hw : w = 5
  · subst hw
    simp [b_Lweb_0350, -W_for, -getElem?_pos, -getElem?_neg, List.getElem?_cons_zero, List.getElem?_cons_succ, e1, e2, e3]
    refine web_tail (n := n + 3) (by omega) (by omega) (by omega) (by omega) hp3 .non .non .non fun ts p' h1 h2 h3 => ?_
    exact ⟨pl, ts, rfl, p', rfl, ⟨by omega, by omega, by omega, h2⟩, mono (by omega) h3⟩
  · simp [b_Lweb_0350, -W_for, -getElem?_pos, -getElem?_neg, List.getElem?_cons_zero, List.getElem?_cons_succ, e1, e2, e3, hw]
    refine web_tail (n := n + 3) (by omega) (by omega) (by omega) (by omega) hp3 .non .non .non fun ts p' h1 h2 h3 => ?_
    exact ⟨1 + a, ts, rfl, p', rfl, ⟨by omega, by omega, by omega, h2⟩, mono (by omega) h3⟩
end Lw
end

section
namespace Lw
open PySem DL
def rowsD (rows : List (List Int)) : List (List D) := rows.map fun row => row.map .int
def orderD (rows : List (List Int)) : D := .tuple (rows.map fun row => .tuple (row.map .int))
/-- the place of an end -/
def plc (ts : List (Int × Int)) (e : Nat) : Int := match ts[e / 2]? with
  | some t => if e % 2 = 0 then t.1 else t.2
  | none => -1
/-- a row as far as the ends below k go -/
structure RowN (ts : List (Int × Int)) (k q : Nat) (row : List Int) : Prop where
  nd : row.Nodup
  mem : ∀ e : Int, e ∈ row ↔ 0 ≤ e ∧ e < k ∧ plc ts e.toNat = q
  hd : ∀ x xs, row = x :: xs → ∀ y ∈ xs, x < y
  len : row.length ≤ k
structure OrdN (m : Int) (ts : List (Int × Int)) (k : Nat) (rows : List (List Int)) : Prop where
  len : rows.length = m.toNat
  row : ∀ q row, rows[q]? = some row → RowN ts k q row
theorem RowN.ins {ts : List (Int × Int)} {k q i : Nat} {row : List Int} (h : RowN ts k q row) (hq : plc ts k = q) (hi : i ≤ row.length) (h1 : row ≠ [] → 1 ≤ i) : RowN ts (k + 1) q (row.take i ++ [(k : Int)] ++ row.drop i) := by
  have hperm : (row.take i ++ [(k : Int)] ++ row.drop i).Perm ((k : Int) :: row) := by
    refine (List.Perm.append_right _ (List.perm_append_comm)).trans ?_
    simp
  have hk : (k : Int) ∉ row := fun hm => by have := ((h.mem k).mp hm).2.1; omega
  refine ⟨hperm.nodup_iff.mpr (List.nodup_cons.mpr ⟨hk, h.nd⟩), fun e => ?_, fun x xs e y hy => ?_, ?_⟩
  · rw [hperm.mem_iff, List.mem_cons, h.mem]
    constructor
    · rintro (rfl | ⟨a, b, c⟩)
      · exact ⟨by omega, by omega, by simpa using hq⟩
      · exact ⟨a, by omega, c⟩
    · rintro ⟨a, b, c⟩
      by_cases he : e = k
      · exact .inl he
      · exact .inr ⟨a, by omega, c⟩
  · cases row with
    | nil =>
      simp at e
      rw [e.2] at hy
      cases hy
    | cons z zs =>
      obtain ⟨i, rfl⟩ : ∃ j, i = j + 1 := ⟨i - 1, by have := h1 (by simp); omega⟩
      simp at e
      obtain ⟨rfl, rfl⟩ := e
      rcases List.mem_append.mp hy with hy | hy
      · exact h.hd z zs rfl y (List.mem_of_mem_take hy)
      · rcases List.mem_cons.mp hy with rfl | hy
        · exact ((h.mem z).mp (List.mem_cons_self ..)).2.1
        · exact h.hd z zs rfl y (List.mem_of_mem_drop hy)
  · have := hperm.length_eq
    rw [this]
    simp
    exact h.len
theorem RowN.other {ts : List (Int × Int)} {k q : Nat} {row : List Int} (h : RowN ts k q row) (hq : plc ts k ≠ q) : RowN ts (k + 1) q row := by
  refine ⟨h.nd, fun e => ?_, h.hd, Nat.le_succ_of_le h.len⟩
  rw [h.mem]
  constructor
  · rintro ⟨a, b, c⟩
    exact ⟨a, by omega, c⟩
  · rintro ⟨a, b, c⟩
    by_cases he : e = k
    · subst he; exact absurd (by simpa using c) hq
    · exact ⟨a, by omega, c⟩
theorem OrdN.ins {m : Int} {ts : List (Int × Int)} {k q i : Nat} {rows : List (List Int)} {row : List Int} (h : OrdN m ts k rows) (e : rows[q]? = some row) (hq : plc ts k = q) (hi : i ≤ row.length) (h1 : row ≠ [] → 1 ≤ i) : OrdN m ts (k + 1) (rows.set q (row.take i ++ [(k : Int)] ++ row.drop i)) := by
  refine ⟨by rw [List.length_set]; exact h.len, fun q2 row2 e2 => ?_⟩
  by_cases hqq : q = q2
  · subst hqq
    rw [List.getElem?_set_self (List.getElem?_eq_some_iff.mp e).1] at e2
    cases e2
    exact (h.row _ _ e).ins hq hi h1
  · rw [List.getElem?_set_ne hqq] at e2
    exact (h.row _ _ e2).other (by rw [hq]; exact_mod_cast hqq)
def OrdI (n : Nat) (m : Int) (ts : List (Int × Int)) (k : Nat) (r : Ro) : Prop := ∃ p rows x3 x4 x5, r = [.own true (.lst p), .frz false (webD m ts), .own false (.ll (rowsD rows)), x3, x4, x5]
  ∧ Pen (n + k) p ∧ OrdN m ts k rows ∧ Fr x3 ∧ putSl.pinnedB x4 = false ∧ alB 0 x4 = true ∧ Fr x5
noncomputable def ordBody : S := (sSeq (sAl 4 2 (oE (mOp gIx [(oE (mOp gIx [(oE (mOp gIx [(oS 1), (oE (mC (.int 1)))])), (oE (mOp gDiv [(oS 3), (oE (mC (.int 2)))]))])), (oE (mOp gMod [(oS 3), (oE (mC (.int 2)))]))])))
    (sDrop (mMut gInsert 4 [(oE (mOp gMin2 [(oE (mOp gLen [(oS 4)])), (oE (mOp gAdd [(oE (mC (.int 1))), (oE (mCall sem_Ldraw_de5b [(oS 0), (oE (mOp gMax2 [(oE (mC (.int 1))), (oE (mOp gLen [(oS 4)]))]))]))]))])), (oE (mRd 3))])))
theorem plc_get {ts : List (Int × Int)} {k : Nat} (hk : k < 2 * ts.length) : ∃ t, t ∈ ts ∧ ixP (ts.map tieD) ((k : Int) / 2) = some (tieD t) ∧ ixP [.int t.1, .int t.2] ((k : Int) % 2) = some (.int (plc ts k)) ∧ (plc ts k = t.1 ∨ plc ts k = t.2) := by
  have hk2 : k / 2 < ts.length := by omega
  have hg : ts[k / 2]? = some ts[k / 2] := List.getElem?_eq_getElem hk2
  refine ⟨ts[k / 2], List.getElem_mem hk2, ?_, ?_, ?_⟩
  · have := ixP_nat (xs := ts.map tieD) (k := k / 2) (d := tieD ts[k / 2]) (by rw [List.getElem?_map, hg]; rfl)
    exact_mod_cast this
  · unfold plc
    rw [hg]
    by_cases h : k % 2 = 0
    · rw [show (k : Int) % 2 = 0 by omega]
      simp [h]
    · rw [show (k : Int) % 2 = 1 by omega]
      simp [h]
  · unfold plc
    rw [hg]
    dsimp only
    split
    · exact .inl rfl
    · exact .inr rfl
set_option maxHeartbeats 4000000 in
theorem ord_body {n k : Nat} {m : Int} {ts : List (Int × Int)} {r : Ro} {Q : SO → Ro → Prop} (hn : n + k ≤ 900000) (hk1 : k ≤ 100000) (hk : k < 2 * ts.length) (ht : TiesOk m ts) (h : OrdI n m ts k r) :
    W (setN 3 (.int k)) r (nxP ordBody (loopP (OrdI n m ts (k + 1)) Q)) := by
  obtain ⟨p, rows, x3, x4, x5, rfl, hp, ho, h3, h4, h4a, h5⟩ := h
  obtain ⟨t, ht1, hi1, hi2, hpl⟩ := plc_get hk
  have htk := ht t ht1
  obtain ⟨q, hq⟩ : ∃ q : Nat, plc ts k = q := ⟨(plc ts k).toNat, by omega⟩
  have hqm : q < rows.length := by rw [ho.len]; omega
  have hix : ixD (rowsD rows).length (q : Int) = some q := ixD_nat (by simpa [rowsD] using hqm)
  obtain ⟨row, hrow⟩ : ∃ row, rows[q]? = some row := ⟨_, List.getElem?_eq_getElem hqm⟩
  have hrow2 : (rowsD rows)[q]? = some (row.map .int) := by unfold rowsD; rw [List.getElem?_map, hrow]; rfl
  have hlen := (ho.row q row hrow).len
  obtain ⟨mx, hmx, mx1, mx2⟩ : ∃ mx : Int, gMax2 [.fz (.int 1), .fz (.int (row.length : Int))] = some (.val (.int mx)) ∧ 1 ≤ mx ∧ mx ≤ 1000000 := ⟨_, gMax2_ii, by split <;> omega, by split <;> omega⟩
  obtain ⟨o1, y1, e1, d, p1, rfl, rfl, d0, d1, hp1⟩ := draw_ok hp (by omega) (m := mx) (by omega)
  obtain ⟨i, hmn, i0, i1, i2⟩ : ∃ i : Nat, gMin2 [.fz (.int (row.length : Int)), .fz (.int (1 + d))] = some (.val (.int (i : Int))) ∧ i ≤ row.length ∧ (row ≠ [] → 1 ≤ i) ∧ (i : Int) < 9223372036854775808 := by
    refine ⟨(if 1 + d < row.length then 1 + d else (row.length : Int)).toNat, ?_, ?_, ?_, ?_⟩
    · rw [gMin2_ii, Int.toNat_of_nonneg]
      split <;> omega
    · split <;> omega
    · intro hne
      have : row.length ≠ 0 := by simpa using hne
      split <;> omega
    · split <;> omega
  have lb : (lineD : Nat) = 16777216 := rfl
  have hl2 : row.length < lineD := by omega
  have s1 : SmD 2 := smD_of (by omega)
  have fin : OrdI n m ts (k + 1) [.own true (.lst p1), .frz false (webD m ts), .own false (.ll ((rowsD rows).set q (List.take i (row.map .int) ++ .int k :: List.drop i (row.map .int)))), .frz false (.int k), .al 2 q, x5] :=
    ⟨p1, rows.set q (row.take i ++ [(k : Int)] ++ row.drop i), .frz false (.int k), .al 2 q, x5, by simp [rowsD, List.map_set, List.map_take, List.map_drop], hp1, ho.ins hrow hq i0 i1, .frz, rfl, rfl, h5⟩
  unfold ordBody
  simp [-getElem?_pos, -getElem?_neg, List.getElem?_cons_zero, List.getElem?_cons_succ, h3.pin]
  refine W_al (b := false) (rows := rowsD rows) rfl ?_
  simp [-getElem?_pos, -getElem?_neg, List.getElem?_cons_zero, List.getElem?_cons_succ, webD, hi1, tieD, hi2, hq, hix, h4, s1]
  simp [-getElem?_pos, -getElem?_neg, List.getElem?_cons_zero, List.getElem?_cons_succ, hrow2, hmx, hmn, e1, -gMax2_ii, -gMin2_ii, h3.al, h4a, h5.al, hl2, i2]
  exact fin
end Lw
end

section
namespace Lw
open PySem DL
theorem ordN0 {m : Int} {ts : List (Int × Int)} (hm : 0 ≤ m) : OrdN m ts 0 (List.replicate m.toNat []) := by
  refine ⟨by simp, fun q row e => ?_⟩
  obtain ⟨h1, h2⟩ := List.getElem?_eq_some_iff.mp e
  simp at h2
  subst h2
  exact ⟨List.nodup_nil, fun e => (by simp; omega), fun x xs h => (by cases h), by simp⟩
theorem rng_map_nil {m : Int} : (rng 0 m).map (fun _ => ([] : List D)) = rowsD (List.replicate m.toNat []) := by
  simp [rng, rowsD]
  apply List.ext_getElem <;> simp
def tupOf : D → D
  | .list xs => .tuple xs
  | d => d
set_option maxHeartbeats 4000000 in
theorem order_ok {n : Nat} {m : Int} {ts : List (Int × Int)} {p : List D} (hp : Pen n p) (hn : n ≤ 800000) (hm : 1 ≤ m ∧ m ≤ 10000) (hl : ts.length ≤ 10000) (ht : TiesOk m ts) :
    Oks sem_Lorder_8e8e [.ow (.lst p), .fz (webD m ts)] fun v ys => ∃ rows p', v = .ok (.val (orderD rows)) ∧ ys = [.ow (.lst p'), .fz (webD m ts)] ∧ OrdN m ts (2 * ts.length) rows ∧ Pen (n + 2 * ts.length) p' := by
  refine oks_def rfl ?_
  have o1 : -4611686018427387904 ≤ m := by omega
  have o2 : m < 4611686018427387904 := by omega
  have lb : (lineD : Nat) = 16777216 := rfl
  have s1 : SmM 2 (ts.length : Int) := smM_of (by omega) (by omega)
  have o3 : -4611686018427387904 ≤ 2 * (ts.length : Int) := by omega
  have o4 : 2 * (ts.length : Int) < 4611686018427387904 := by omega
  simp [b_Lorder_8e8e, -getElem?_pos, -getElem?_neg, List.getElem?_cons_zero, List.getElem?_cons_succ, webD, o1, o2, anyPin]
  refine lcLK_map (f := fun _ => []) (fun d _ => ?_) ?_ ?_
  · simp [-getElem?_pos, -getElem?_neg, List.getElem?_cons_zero, List.getElem?_cons_succ]
  · rw [rng0_len]; simp; omega
  simp [-getElem?_pos, -getElem?_neg, List.getElem?_cons_zero, List.getElem?_cons_succ, s1, o3, o4]
  refine forS_inv (OrdI n m ts) (rng 0 (2 * (ts.length : Int))) 0 _ ?_ (fun k d r hd h => ?_) (fun r h => ?_)
  · refine ⟨p, List.replicate m.toNat [], .non, .non, .non, ?_, hp, ordN0 (by omega), .non, rfl, rfl, .non⟩
    rw [← rng_map_nil]
    rfl
  · obtain ⟨rfl, hk⟩ := rng0_get hd
    rw [Nat.zero_add] at h ⊢
    exact ord_body (by omega) (by omega) (by omega) ht h
  · rw [Nat.zero_add, rng0_len, show (2 * (ts.length : Int)).toNat = 2 * ts.length by omega] at h
    obtain ⟨p', rows, x3, x4, x5, rfl, hp', ho, h3, h4, h4a, h5⟩ := h
    simp [-getElem?_pos, -getElem?_neg, List.getElem?_cons_zero, List.getElem?_cons_succ, anyPin, h4]
    refine lcK_map (f := tupOf) (fun d hd => ?_) ?_ ?_
    · obtain ⟨row, hrow, rfl⟩ := List.mem_map.mp hd
      simp [-getElem?_pos, -getElem?_neg, List.getElem?_cons_zero, List.getElem?_cons_succ, tupOf]
    · have := ho.len
      simp [rowsD]
      omega
    · simp [-getElem?_pos, -getElem?_neg, List.getElem?_cons_zero, List.getElem?_cons_succ]
      refine ⟨rows, ?_, ho, hp'⟩
      simp [orderD, rowsD, tupOf, Function.comp_def]
end Lw
end

section
namespace Lw
open PySem DL
/-- the row's next one behind an end -/
def nextIn (row : List Int) (e : Int) : Option Int := (row.findIdx? (· == e)).bind fun k => row[(k + 1) % row.length]?
def nxt (ts : List (Int × Int)) (rows : List (List Int)) (e : Nat) : Option Int := (rows[(plc ts e).toNat]?).bind fun row => nextIn row e
def ptn (e : Nat) : Nat := if e % 2 = 0 then e + 1 else e - 1
theorem findIdx_get {row : List Int} {k : Nat} {e : Int} (h : row[k]? = some e) (nd : row.Nodup) : row.findIdx? (· == e) = some k := by
  obtain ⟨h1, h2⟩ := List.getElem?_eq_some_iff.mp h
  rw [List.findIdx?_eq_some_iff_getElem]
  refine ⟨h1, by simp [h2], fun j hj => ?_⟩
  have : row[j] ≠ row[k] := List.pairwise_iff_getElem.mp nd j k (by omega) h1 hj
  rw [h2] at this
  simpa using this
theorem nextIn_get {row : List Int} {k : Nat} {e : Int} (h : row[k]? = some e) (nd : row.Nodup) : nextIn row e = row[(k + 1) % row.length]? := by
  unfold nextIn
  rw [findIdx_get h nd]
  rfl
theorem partner_ok2 {e : Nat} (h : e ≤ 1000000) : Oks sem_partner_1131 [.fz (.int e)] fun v ys => v = .ok (.val (.int (ptn e))) ∧ ys = [.fz (.int e)] := by
  refine (partner_ok (e := e) (by omega)).mono fun v ys ⟨h1, h2⟩ => ⟨?_, h2⟩
  rw [h1]
  unfold ptn
  congr 3
  split <;> omega
/-- where an end stands -/
theorem OrdN.at {m : Int} {ts : List (Int × Int)} {rows : List (List Int)} (ho : OrdN m ts (2 * ts.length) rows) (ht : TiesOk m ts) {k : Nat} (hk : k < 2 * ts.length) :
    ∃ q row j y, plc ts k = (q : Nat) ∧ rows[q]? = some row ∧ row[j]? = some (k : Int) ∧ row[(j + 1) % row.length]? = some y ∧ nxt ts rows k = some y ∧ row.findIdx? (· == (k : Int)) = some j ∧ 0 < row.length ∧ row.length ≤ 2 * ts.length ∧ ∃ y', y = (y' : Nat) ∧ y' < 2 * ts.length := by
  obtain ⟨t, ht1, hi1, hi2, hpl⟩ := plc_get hk
  have htk := ht t ht1
  obtain ⟨q, hq⟩ : ∃ q : Nat, plc ts k = q := ⟨(plc ts k).toNat, by omega⟩
  have hqm : q < rows.length := by rw [ho.len]; omega
  obtain ⟨row, hrow⟩ : ∃ row, rows[q]? = some row := ⟨_, List.getElem?_eq_getElem hqm⟩
  have hr := ho.row q row hrow
  have hm : (k : Int) ∈ row := (hr.mem k).mpr ⟨by omega, by omega, by simpa using hq⟩
  obtain ⟨j, hj, hj2⟩ := List.mem_iff_getElem.mp hm
  have hj3 : row[j]? = some (k : Int) := by rw [List.getElem?_eq_getElem hj, hj2]
  have hmod : (j + 1) % row.length < row.length := Nat.mod_lt _ (by omega)
  have hy : row[(j + 1) % row.length]? = some row[(j + 1) % row.length] := List.getElem?_eq_getElem hmod
  have hym := (hr.mem _).mp (List.getElem_mem hmod)
  refine ⟨q, row, j, _, hq, hrow, hj3, hy, ?_, findIdx_get hj3 hr.nd, by omega, hr.len, (row[(j + 1) % row.length]).toNat, by omega, by omega⟩
  unfold nxt
  rw [hq, Int.toNat_natCast, hrow]
  show nextIn row k = _
  rw [nextIn_get hj3 hr.nd, hy]
/-- the others turned about -/
def turn (row : List Int) : List Int := row.take 1 ++ (row.drop 1).reverse
theorem RowN.turn {ts : List (Int × Int)} {k q : Nat} {row : List Int} (h : RowN ts k q row) : RowN ts k q (turn row) := by
  have hperm : (Lw.turn row).Perm row := by
    unfold Lw.turn
    refine (List.Perm.append_left _ (List.reverse_perm _)).trans ?_
    rw [List.take_append_drop]
  refine ⟨hperm.nodup_iff.mpr h.nd, fun e => by rw [hperm.mem_iff, h.mem], fun x xs e y hy => ?_, by rw [hperm.length_eq]; exact h.len⟩
  cases row with
  | nil => cases e
  | cons z zs =>
    unfold Lw.turn at e
    simp at e
    obtain ⟨rfl, rfl⟩ := e
    exact h.hd z zs rfl y (List.mem_reverse.mp hy)
theorem OrdN.turn {m : Int} {ts : List (Int × Int)} {k : Nat} {rows : List (List Int)} (h : OrdN m ts k rows) : OrdN m ts k (rows.map Lw.turn) := by
  refine ⟨by rw [List.length_map]; exact h.len, fun q row e => ?_⟩
  rw [List.getElem?_map] at e
  cases hr : rows[q]? with
  | none => rw [hr] at e; cases e
  | some r0 => rw [hr] at e; cases e; exact (h.row _ _ hr).turn
end Lw
end

section
namespace Lw
open PySem DL
/-- a dict from ends to the next ones, so far -/
structure BehN (ts : List (Int × Int)) (rows : List (List Int)) (q j c : Nat) (kvs : List (Ky × D)) : Prop where
  len : kvs.length ≤ c
  mem : ∀ q' row, rows[q']? = some row → ∀ i y, row[i]? = some y → (q' < q ∨ (q' = q ∧ i < j)) → ∀ x, row[(i + row.length - 1) % row.length]? = some x → valD kvs (.inl x) = some (.int y)
theorem BehN.put {m : Int} {ts : List (Int × Int)} {rows : List (List Int)} {q j c n : Nat} {kvs : List (Ky × D)} {row : List Int} {x y : Int} (ho : OrdN m ts n rows) (h : BehN ts rows q j c kvs) (hr : rows[q]? = some row) (hy : row[j]? = some y) (hx : row[(j + row.length - 1) % row.length]? = some x) : BehN ts rows q (j + 1) (c + 1) (putD kvs (.inl x) (.int y)) := by
  have hj := (List.getElem?_eq_some_iff.mp hy).1
  refine ⟨Nat.le_trans putD_len (by have := h.len; omega), fun q' row' hr' i y' hy' hc x' hx' => ?_⟩
  rw [valD_put]
  have hi := (List.getElem?_eq_some_iff.mp hy').1
  have pm : ∀ i l : Nat, i < l → (i + l - 1) % l < l := fun i l h => Nat.mod_lt _ (by omega)
  by_cases hxx : x' = x
  · subst hxx
    rw [if_pos rfl]
    have hm1 := ((ho.row _ _ hr).mem x').mp (List.mem_of_getElem? hx)
    have hm2 := ((ho.row _ _ hr').mem x').mp (List.mem_of_getElem? hx')
    have hqq : q = q' := by have := hm1.2.2.symm.trans hm2.2.2; exact_mod_cast this
    subst hqq
    rw [hr] at hr'
    cases hr'
    have f1 := findIdx_get hx (ho.row _ _ hr).nd
    have f2 := findIdx_get hx' (ho.row _ _ hr).nd
    rw [f1] at f2
    have f3 := Option.some.inj f2
    have hij : i = j := by
      have a1 : (j + row.length - 1) % row.length = if j = 0 then row.length - 1 else j - 1 := by
        split
        · rename_i h0; subst h0; rw [Nat.zero_add]; exact Nat.mod_eq_of_lt (by omega)
        · rw [show j + row.length - 1 = (j - 1) + row.length by omega, Nat.add_mod_right]; exact Nat.mod_eq_of_lt (by omega)
      have a2 : (i + row.length - 1) % row.length = if i = 0 then row.length - 1 else i - 1 := by
        split
        · rename_i h0; subst h0; rw [Nat.zero_add]; exact Nat.mod_eq_of_lt (by omega)
        · rw [show i + row.length - 1 = (i - 1) + row.length by omega, Nat.add_mod_right]; exact Nat.mod_eq_of_lt (by omega)
      rw [a1, a2] at f3
      split at f3 <;> split at f3 <;> omega
    subst hij
    rw [hy] at hy'
    cases hy'
    rfl
  · rw [if_neg (by simpa using hxx)]
    refine h.mem q' row' hr' i y' hy' ?_ x' hx'
    rcases hc with hc | ⟨rfl, hc⟩
    · exact .inl hc
    · by_cases hij : i = j
      · subst hij
        rw [hr] at hr'
        cases hr'
        rw [hx] at hx'
        exact absurd (Option.some.inj hx').symm hxx
      · exact .inr ⟨rfl, by omega⟩
end Lw
end

section
namespace Lw
open PySem DL
end Lw
end

section
namespace Lw
open PySem DL
/-- the row's one ahead of an end -/
def prevIn (row : List Int) (e : Int) : Option Int := (row.findIdx? (· == e)).bind fun k => row[(k + row.length - 1) % row.length]?
def prv (ts : List (Int × Int)) (rows : List (List Int)) (e : Nat) : Option Int := (rows[(plc ts e).toNat]?).bind fun row => prevIn row e
/-- crossings -/
structure Cr (ts : List (Int × Int)) (cs : List Int) : Prop where
  len : cs.length = ts.length
  ok : ∀ c ∈ cs, c = 0 ∨ c = 1
theorem Cr.get {ts : List (Int × Int)} {cs : List Int} (h : Cr ts cs) {k : Nat} (hk : k < 2 * ts.length) : ∃ c : Int, (c = 0 ∨ c = 1) ∧ cs[k / 2]? = some c ∧ ixP (cs.map PyData.int) ((k : Int) / 2) = some (.int c) := by
  have hl := h.len
  have hk2 : k / 2 < cs.length := by omega
  refine ⟨cs[k / 2], h.ok _ (List.getElem_mem hk2), List.getElem?_eq_getElem hk2, ?_⟩
  have := ixP_nat (xs := cs.map PyData.int) (k := k / 2) (d := .int cs[k / 2]) (by rw [List.getElem?_map, List.getElem?_eq_getElem hk2]; rfl)
  exact_mod_cast this
/-- the hand behind a tie -/
def hb (c h : Int) : Int := if c = 1 then 1 - h else h
end Lw
end

section
namespace Lw
open PySem DL
end Lw
end

section
namespace Lw
open PySem DL
/-- data of whole numbers, tuples and lists, k deep -/
def SmD : Nat → D → Prop
  | _, .int _ => True
  | k + 1, .tuple ds => ds.length ≤ 1000000 ∧ ∀ d ∈ ds, SmD k d
  | k + 1, .list ds => ds.length ≤ 1000000 ∧ ∀ d ∈ ds, SmD k d
  | _, _ => False
end Lw
end

section
namespace Lw
open PySem DL
theorem okD_b {b : Bool} : okD (.bool b) = true := by
  unfold okD PyData.canLay0 PyData.depth
  rfl
theorem eqv_bb {a b : Bool} : PyData.eqv (.bool a) (.bool b) = decide (a = b) := by
  cases a <;> cases b <;> (unfold PyData.eqv; rfl)
@[simp] theorem gEq_bb {a b : Bool} : gEq [.fz (.bool a), .fz (.bool b)] = some (.val (.bool (decide (a = b)))) := by
  show (if okD (.bool a) && okD (.bool b) then some (RV.val (.bool (PyData.eqv (.bool a) (.bool b)))) else none) = _
  rw [okD_b, okD_b, eqv_bb]
  rfl
@[simp] theorem gNe_bb {a b : Bool} : gNe [.fz (.bool a), .fz (.bool b)] = some (.val (.bool (!decide (a = b)))) := by
  show (if okD (.bool a) && okD (.bool b) then some (RV.val (.bool (!PyData.eqv (.bool a) (.bool b)))) else none) = _
  rw [okD_b, okD_b, eqv_bb]
  rfl
end Lw
end

section
namespace Lw
open PySem DL
/-- crossed the other way -/
theorem Cr.other {ts : List (Int × Int)} {cs : List Int} (h : Cr ts cs) : Cr ts (cs.map fun c => 1 - c) := by
  refine ⟨by rw [List.length_map]; exact h.len, fun c hc => ?_⟩
  obtain ⟨x, hx, rfl⟩ := List.mem_map.mp hc
  rcases h.ok x hx with rfl | rfl <;> simp
end Lw
end

section
namespace Lw
open PySem DL
end Lw
end

section
namespace Lw
open PySem DL
theorem ptn_ptn (k : Nat) : ptn (ptn k) = k := by unfold ptn; split <;> split <;> omega
theorem ptn_half (k : Nat) : ptn k / 2 = k / 2 := by unfold ptn; split <;> omega
theorem ptn_lt {k n : Nat} (h : k < 2 * n) : ptn k < 2 * n := by unfold ptn; split <;> omega
/-- the one ahead of the next one -/
theorem prv_nxt {m : Int} {ts : List (Int × Int)} {rows : List (List Int)} (ho : OrdN m ts (2 * ts.length) rows) (ht : TiesOk m ts) {k y : Nat} (hk : k < 2 * ts.length) (h : nxt ts rows k = some (y : Int)) : prv ts rows y = some (k : Int) := by
  obtain ⟨q, row, j, z, h1, h2, h3, h4, h5, h6, h7, h8, z', rfl, h9⟩ := ho.at ht hk
  rw [h] at h5
  have e : y = z' := by have := Option.some.inj h5; omega
  subst e
  have hr := ho.row _ _ h2
  have hm := (hr.mem y).mp (List.mem_of_getElem? h4)
  unfold prv
  rw [show plc ts y = (q : Int) by simpa using hm.2.2, Int.toNat_natCast, h2]
  show prevIn row y = _
  unfold prevIn
  rw [findIdx_get h4 hr.nd]
  show row[((j + 1) % row.length + row.length - 1) % row.length]? = _
  have hj := (List.getElem?_eq_some_iff.mp h3).1
  have : ((j + 1) % row.length + row.length - 1) % row.length = j := by
    by_cases h : j + 1 = row.length
    · have hi : (j + 1) % row.length = 0 := by rw [h, Nat.mod_self]
      rw [hi, Nat.zero_add, Nat.mod_eq_of_lt (by omega)]
      omega
    · have hi : (j + 1) % row.length = j + 1 := Nat.mod_eq_of_lt (by omega)
      rw [hi, show j + 1 + row.length - 1 = j + row.length by omega, Nat.add_mod_right, Nat.mod_eq_of_lt hj]
  rw [this]
  exact h3
end Lw
end

section
namespace Lw
open PySem DL
/-- states: the hand behind the tie -/
def hbF (cs : List Int) (s : Nat × Int) : Int := hb (cs[s.1 / 2]?.getD 0) s.2
def bk (cs : List Int) (s : Nat × Int) : Nat × Int := (ptn s.1, 1 - hbF cs s)
def nxF (ts : List (Int × Int)) (rows : List (List Int)) (k : Nat) : Nat := ((nxt ts rows k).getD 0).toNat
def pvF (ts : List (Int × Int)) (rows : List (List Int)) (k : Nat) : Nat := ((prv ts rows k).getD 0).toNat
/-- a state of the web -/
def St (T : Nat) (s : Nat × Int) : Prop := s.1 < 2 * T ∧ (s.2 = 0 ∨ s.2 = 1)
end Lw
end

section
namespace Lw
open PySem DL
section
variable {m : Int} {ts : List (Int × Int)} {rows : List (List Int)} {cs : List Int}
theorem nxF_ok (ho : OrdN m ts (2 * ts.length) rows) (ht : TiesOk m ts) {k : Nat} (hk : k < 2 * ts.length) : nxt ts rows k = some (nxF ts rows k : Int) ∧ nxF ts rows k < 2 * ts.length := by
  obtain ⟨q, row, j, z, h1, h2, h3, h4, h5, h6, h7, h8, z', rfl, h9⟩ := ho.at ht hk
  unfold nxF
  rw [h5]
  simpa using h9
theorem pv_nx (ho : OrdN m ts (2 * ts.length) rows) (ht : TiesOk m ts) {k : Nat} (hk : k < 2 * ts.length) : pvF ts rows (nxF ts rows k) = k := by
  have := prv_nxt ho ht hk (nxF_ok ho ht hk).1
  unfold pvF
  rw [this]
  simp
end
end Lw
end

section
namespace Lw
open PySem DL
/-- onward -/
def onF (ts : List (Int × Int)) (rows : List (List Int)) (k : Nat) : Nat := nxF ts rows (ptn k)
section
variable {m : Int} {ts : List (Int × Int)} {rows : List (List Int)}
end
section
variable {f : Nat → Nat} {P : Nat → Prop} {B : Nat}
/-- a round's least one -/
def isLo (f : Nat → Nat) (x : Nat) : Prop := ∀ y ∈ orb f x, x ≤ y
theorem lo_ex (s : Stp f P B) {x : Nat} (hx : P x) : ∃ i, i < per f x ∧ isLo f (itr f i x) := by
  have h0 := s.per hx
  obtain ⟨v, ⟨i, hi, hv⟩, hmin⟩ := least (P := fun v => ∃ i, i < per f x ∧ itr f i x = v) ⟨x, 0, by omega, rfl⟩
  refine ⟨i, hi, fun y hy => ?_⟩
  have hm : itr f i x ∈ orb f x := (mem_orb s hx).mpr ⟨i, rfl⟩
  have hy2 := orb_trans s hx hm hy
  obtain ⟨n, hn⟩ := (mem_orb s hx).mp hy2
  rw [s.mod hx] at hn
  rw [hv]
  by_cases hlt : y < v
  · exact absurd ⟨n % per f x, Nat.mod_lt _ h0.1, hn⟩ (hmin y hlt)
  · omega
end
end Lw
end

section
namespace Lw
open PySem DL
/-- natural numbers as data -/
def intsN (l : List Nat) : List Int := l.map fun n : Nat => (n : Int)
def tupN (l : List Nat) : D := .tuple ((intsN l).map .int)
section
variable {m : Int} {ts : List (Int × Int)} {rows : List (List Int)}
end
end Lw
end

section
namespace Lw
open PySem DL
def loneN (rows : List (List Int)) : List (List Nat) := (rows.filter (·.isEmpty)).map fun _ => []
end Lw
end

section
namespace Lw
open PySem DL
section
variable {f : Nat → Nat} {N B : Nat}
open Classical in
noncomputable def repsN (f : Nat → Nat) (k : Nat) : List Nat := (List.range k).filter fun x => decide (isLo f x)
/-- what is met ahead of the k-th -/
structure MetI (f : Nat → Nat) (N : Nat) (k c : Nat) (kvs : List (Ky × D)) : Prop where
  len : kvs.length ≤ c
  mem : ∀ y, y < N → ((valD kvs (.inl (y : Int))).isSome = true ↔ ∃ z ∈ orb f y, z < k)
theorem MetI.lo (s : Stp f (· < N) B) {k c : Nat} {kvs : List (Ky × D)} (h : MetI f N k c kvs) (hk : k < N) (hm : (valD kvs (.inl (k : Int))).isSome = false) : isLo f k := fun y hy => by
  by_cases hlt : y < k
  · have := (h.mem k hk).mpr ⟨y, hy, hlt⟩
    rw [hm] at this
    cases this
  · omega
theorem lo_uniq (s : Stp f (· < N) B) {k z : Nat} (hk : k < N) (hz : z ∈ orb f k) (h1 : isLo f k) (h2 : isLo f z) : z = k := by
  have a := h1 z hz
  have b := h2 k (orb_symm s hk hz)
  omega
/-- while a round is put down -/
structure MetJ (f : Nat → Nat) (N : Nat) (k j c : Nat) (kvs : List (Ky × D)) : Prop where
  len : kvs.length ≤ c + j
  mem : ∀ y, y < N → ((valD kvs (.inl (y : Int))).isSome = true ↔ (∃ z ∈ orb f y, z < k) ∨ ∃ i, i < j ∧ itr f i k = y)
theorem MetJ.start {k c : Nat} {kvs : List (Ky × D)} (h : MetI f N k c kvs) : MetJ f N k 0 c kvs := ⟨h.len, fun y hy => by rw [h.mem y hy]; simp⟩
theorem MetJ.put {k j c : Nat} {kvs : List (Ky × D)} {d : D} (h : MetJ f N k j c kvs) : MetJ f N k (j + 1) c (putD kvs (.inl ((itr f j k : Nat) : Int)) d) := by
  refine ⟨Nat.le_trans putD_len (by have := h.len; omega), fun y hy => ?_⟩
  rw [valD_put]
  by_cases e : itr f j k = y
  · subst e
    simp
    exact .inr ⟨j, by omega, rfl⟩
  · have e2 : ¬ ((Sum.inl (y : Int) : Ky) = .inl ((itr f j k : Nat) : Int)) := fun h => e (by have := Sum.inl.inj h; omega)
    rw [if_neg e2, h.mem y hy]
    constructor
    · rintro (h | ⟨i, h1, h2⟩)
      · exact .inl h
      · exact .inr ⟨i, by omega, h2⟩
    · rintro (h | ⟨i, h1, h2⟩)
      · exact .inl h
      · refine .inr ⟨i, ?_, h2⟩
        by_cases hij : i = j
        · subst hij; exact absurd h2 e
        · omega
theorem MetJ.done (s : Stp f (· < N) B) {k c : Nat} {kvs : List (Ky × D)} (hk : k < N) (h : MetJ f N k (per f k) c kvs) : MetI f N (k + 1) (c + per f k) kvs := by
  refine ⟨h.len, fun y hy => ?_⟩
  rw [h.mem y hy]
  constructor
  · rintro (⟨z, h1, h2⟩ | ⟨i, h1, h2⟩)
    · exact ⟨z, h1, by omega⟩
    · exact ⟨k, orb_symm s hk ((mem_orb s hk).mpr ⟨i, h2⟩), by omega⟩
  · rintro ⟨z, h1, h2⟩
    by_cases e : z = k
    · subst e
      have := orb_symm s hy h1
      unfold orb at this
      obtain ⟨i, h3, h4⟩ := List.mem_map.mp this
      exact .inr ⟨i, List.mem_range.mp h3, h4⟩
    · exact .inl ⟨z, h1, by omega⟩
end
/-- the faces found ahead of the k-th end -/
noncomputable def fcsK (ts : List (Int × Int)) (rows : List (List Int)) (k : Nat) : List (List Nat) := loneN rows ++ (repsN (onF ts rows) k).map (orb (onF ts rows))
section
variable {m : Int} {ts : List (Int × Int)} {rows : List (List Int)}
end
end Lw
end

section
namespace Lw
open PySem DL
section
variable {m : Int} {ts : List (Int × Int)} {rows : List (List Int)}
/-- all ends, each once -/
theorem flat_mem (ho : OrdN m ts (2 * ts.length) rows) (ht : TiesOk m ts) {e : Int} : e ∈ rows.flatten ↔ 0 ≤ e ∧ e < 2 * ts.length := by
  rw [List.mem_flatten]
  constructor
  · rintro ⟨row, h1, h2⟩
    obtain ⟨q, hq⟩ := List.mem_iff_getElem?.mp h1
    have := ((ho.row q row hq).mem e).mp h2
    omega
  · rintro ⟨h1, h2⟩
    have hk : e.toNat < 2 * ts.length := by omega
    obtain ⟨q, row, j, y, h1', h2', h3, _⟩ := ho.at ht hk
    exact ⟨row, List.mem_of_getElem? h2', by have := List.mem_of_getElem? h3; rwa [show ((e.toNat : Nat) : Int) = e by omega] at this⟩
end
end Lw
end

section
namespace Lw
open PySem DL
section
variable {m : Int} {ts : List (Int × Int)} {rows : List (List Int)}
theorem next_at (ho : OrdN m ts (2 * ts.length) rows) (ht : TiesOk m ts) {q j : Nat} {row : List Int} {e : Int} (hq : rows[q]? = some row) (hj : row[j]? = some e) : row[(j + 1) % row.length]? = some ((nxF ts rows e.toNat : Nat) : Int) := by
  have hm := ((ho.row q row hq).mem e).mp (List.mem_of_getElem? hj)
  have hk : e.toNat < 2 * ts.length := by omega
  have h1 := nextIn_get hj (ho.row q row hq).nd
  have h2 := (nxF_ok ho ht hk).1
  unfold nxt at h2
  rw [hm.2.2, show ((q : Int)).toNat = q by omega, hq] at h2
  rw [← h1]
  rw [show ((e.toNat : Nat) : Int) = e by omega] at h2
  exact h2
end
end Lw
end

section
namespace Lw
open PySem DL
noncomputable def facesD (ts : List (Int × Int)) (rows : List (List Int)) : List D := srtD ((fcsK ts rows (2 * ts.length)).map tupN)
section
variable {m : Int} {ts : List (Int × Int)} {rows : List (List Int)}
end
theorem pen_mono {a b : Nat} {q : List D} : a ≤ b → Pen a q → Pen b q := fun h ⟨cs, a, g, e, h1, h2, h3, h4⟩ => ⟨cs, a, g, e, h1, by omega, h3, h4⟩
end Lw
end

section
namespace Lw
open PySem DL
end Lw
end

section
namespace Lw
open PySem DL
@[simp] theorem gAdd_ol {xs ys : List D} : gAdd [.ow (.lst xs), .fz (.list ys)] = if xs.length + ys.length ≤ lineD then some (.new (.lst (xs ++ ys))) else none := rfl
def nm (zs : List Int) (a : Int) : Int := zs.getD a.toNat 0
theorem rng_ints (m : Int) : rng 0 m = ((List.range m.toNat).map fun k : Nat => (k : Int)).map PyData.int := by
  unfold rng
  simp
end Lw
end

section
namespace Lw
open PySem DL
theorem srt_pwI (L : List Int) : (L.mergeSort fun a b => decide (a ≤ b)).Pairwise fun a b => decide (a ≤ b) = true :=
  List.pairwise_mergeSort (fun a b c h1 h2 => by simp only [decide_eq_true_eq] at *; omega) (fun a b => by
    have := Int.le_total a b
    simpa using this) L
end Lw
end

section
namespace Lw
open PySem DL
theorem lay_all {xs : List D} (h : ∀ d ∈ xs, d.canLay0 = true) : PyData.canLayAll0 xs = true := by
  induction xs with
  | nil => simp [PyData.canLayAll0]
  | cons x xs ih => simp [PyData.canLayAll0, h x (by simp), ih fun d hd => h d (by simp [hd])]
theorem dep_all {xs : List D} {k : Nat} (h : ∀ d ∈ xs, d.depth ≤ k) : PyData.depthAll xs ≤ k := by
  induction xs with
  | nil => simp [PyData.depthAll]
  | cons x xs ih =>
    simp only [PyData.depthAll]
    exact Nat.max_le.mpr ⟨h x (by simp), ih fun d hd => h d (by simp [hd])⟩
theorem SmD.lay : ∀ {k : Nat} {d : D}, SmD k d → d.canLay0 = true ∧ d.depth ≤ k
  | k, .int _, _ => by simp [PyData.canLay0, PyData.depth]
  | k + 1, .tuple ds, h => by
    refine ⟨by simp only [PyData.canLay0]; exact lay_all fun d hd => (SmD.lay (h.2 d hd)).1, ?_⟩
    simp only [PyData.depth]
    have := dep_all (k := k) fun d hd => (SmD.lay (h.2 d hd)).2
    omega
  | k + 1, .list ds, h => by
    refine ⟨by simp only [PyData.canLay0]; exact lay_all fun d hd => (SmD.lay (h.2 d hd)).1, ?_⟩
    simp only [PyData.depth]
    have := dep_all (k := k) fun d hd => (SmD.lay (h.2 d hd)).2
    omega
  | 0, .tuple _, h => h.elim
  | 0, .list _, h => h.elim
  | 0, .none, h => h.elim
  | 0, .bool _, h => h.elim
  | 0, .str _, h => h.elim
  | 0, .dict _, h => h.elim
  | _ + 1, .none, h => h.elim
  | _ + 1, .bool _, h => h.elim
  | _ + 1, .str _, h => h.elim
  | _ + 1, .dict _, h => h.elim
theorem SmD.okD {k : Nat} {d : D} (h : SmD k d) (hk : k ≤ 40) : DL.okD d = true ∧ DL.okE d = true := by
  obtain ⟨a, b⟩ := h.lay
  unfold DL.okD DL.okE
  simp [a]
  omega
section
variable {m : Int} {ts : List (Int × Int)} {rows : List (List Int)}
open Classical in
theorem reps_mem {f : Nat → Nat} {k x : Nat} : x ∈ repsN f k ↔ x < k ∧ isLo f x := by
  unfold repsN
  rw [List.mem_filter, List.mem_range]
  simp
end
end Lw
end

section
namespace Lw
open PySem DL
section
variable {m : Int} {ts : List (Int × Int)} {rows : List (List Int)}
end
end Lw
end

section
namespace Lw
open PySem DL
def rl (lo hi x : Int) : Int := if x = hi then lo else x
def mkAt (ms : List Int) (a : Int) : Int := ms.getD a.toNat 0
def mstep (ms : List Int) (t : Int × Int) : List Int :=
  ms.map (rl (if mkAt ms t.2 < mkAt ms t.1 then mkAt ms t.2 else mkAt ms t.1) (if mkAt ms t.2 > mkAt ms t.1 then mkAt ms t.2 else mkAt ms t.1))
def rangeI (m : Int) : List Int := (List.range m.toNat).map fun k : Nat => (k : Int)
def marks (m : Int) (ts : List (Int × Int)) : List Int := ts.foldl mstep (rangeI m)
theorem mstep_len (ms : List Int) (t : Int × Int) : (mstep ms t).length = ms.length := by simp [mstep]
theorem foldl_len : ∀ (ts : List (Int × Int)) (ms : List Int), (ts.foldl mstep ms).length = ms.length
  | [], _ => rfl
  | t :: ts, ms => by rw [List.foldl_cons, foldl_len ts, mstep_len]
theorem marks_len (m : Int) (ts : List (Int × Int)) : (marks m ts).length = m.toNat := by
  unfold marks
  rw [foldl_len]
  simp [rangeI]
theorem mkAt_ok {ms : List Int} {a : Int} (h0 : 0 ≤ a) (h1 : a < ms.length) : ixP (ms.map PyData.int) a = some (.int (mkAt ms a)) ∧ ms[a.toNat]? = some (mkAt ms a) := by
  have hg : ms[a.toNat]? = some (mkAt ms a) := by
    unfold mkAt
    rw [List.getD_eq_getElem?_getD, List.getElem?_eq_getElem (by omega)]
    rfl
  exact ⟨ixP_pos h0 (by rw [List.getElem?_map, hg]; rfl), hg⟩
theorem marks_take (m : Int) (ts : List (Int × Int)) {q : Nat} {t : Int × Int} (h : ts[q]? = some t) : marks m (ts.take (q + 1)) = mstep (marks m (ts.take q)) t := by
  unfold marks
  rw [List.take_add_one, h]
  simp [List.foldl_append]
/-- the marks, some of them relabelled -/
def relK (lo hi : Int) (k : Nat) (ms : List Int) : List Int := (ms.take k).map (rl lo hi) ++ ms.drop k
theorem relK_len {lo hi : Int} {k : Nat} {ms : List Int} : (relK lo hi k ms).length = ms.length := by
  simp [relK]
  omega
theorem relK_get {lo hi : Int} {k : Nat} {ms : List Int} {x : Int} (h : ms[k]? = some x) : (relK lo hi k ms)[k]? = some x := by
  have hk := (List.getElem?_eq_some_iff.mp h).1
  unfold relK
  rw [List.getElem?_append_right (by simp; exact Nat.min_le_left _ _)]
  simp
  rw [Nat.min_eq_left (by omega), Nat.sub_self, Nat.add_zero]
  exact h
theorem relK_step {lo hi : Int} {k : Nat} {ms : List Int} {x : Int} (h : ms[k]? = some x) : relK lo hi (k + 1) ms = (relK lo hi k ms).set k (rl lo hi x) := by
  obtain ⟨hk, e⟩ := List.getElem?_eq_some_iff.mp h
  unfold relK
  rw [List.take_add_one, h, List.map_append, List.set_append_right _ _ (by simp; exact Nat.min_le_left _ _)]
  simp only [List.length_map, List.length_take]
  rw [Nat.min_eq_left (by omega), Nat.sub_self, List.drop_eq_getElem_cons hk, List.set_cons_zero]
  simp
theorem relK_same {lo hi : Int} {k : Nat} {ms : List Int} {x : Int} (h : ms[k]? = some x) (hx : x ≠ hi) : relK lo hi (k + 1) ms = relK lo hi k ms := by
  rw [relK_step h, show rl lo hi x = x from if_neg hx]
  exact List.ext_getElem? fun j => by
    by_cases hj : k = j
    · subst hj
      rw [relK_get h, List.getElem?_set_self (by rw [relK_len]; exact (List.getElem?_eq_some_iff.mp h).1)]
    · rw [List.getElem?_set_ne hj]
/-- the lists of places with one mark, by the marks -/
def grp (ms : List Int) (f : Int) : List Int := ((List.range ms.length).filter fun p : Nat => mkAt ms (p : Int) == f).map fun p : Nat => (p : Int)
def partsI (ms : List Int) : List (List Int) := (dsort ms).map (grp ms)
def lstI (l : List Int) : D := .list (l.map .int)
def partsD (m : Int) (ts : List (Int × Int)) : List D := (partsI (marks m ts)).map lstI
theorem dins_len (n : Int) : ∀ l : List Int, (dins n l).length ≤ l.length + 1
  | [] => by simp [dins]
  | m :: t => by
    have := dins_len n t
    unfold dins
    split
    · simp
    · split <;> simp <;> omega
theorem dsort_len : ∀ l : List Int, (dsort l).length ≤ l.length
  | [] => by simp [dsort]
  | n :: t => by
    show (dins n (dsort t)).length ≤ _
    have := dins_len n (dsort t)
    have := dsort_len t
    simp
    omega
def grpF (ms : List Int) (f : Int) : D → Option D
  | .int p => if mkAt ms p = f then some (.int p) else none
  | _ => none
theorem grpF_rng {ms : List Int} {m f : Int} (h : ms.length = m.toNat) : (rng 0 m).filterMap (grpF ms f) = (grp ms f).map .int := by
  rw [rng_ints, ← h, List.map_map, List.filterMap_map]
  unfold grp
  rw [List.map_map]
  have : ∀ L : List Nat, L.filterMap (grpF ms f ∘ (PyData.int ∘ fun k : Nat => (k : Int))) = (L.filter fun p : Nat => mkAt ms (p : Int) == f).map (PyData.int ∘ fun p : Nat => (p : Int)) := by
    intro L
    induction L with
    | nil => rfl
    | cons p L ih =>
      rw [List.filterMap_cons, List.filter_cons]
      by_cases h : mkAt ms (p : Int) = f
      · rw [show (grpF ms f ∘ (PyData.int ∘ fun k : Nat => (k : Int))) p = some (.int (p : Int)) from if_pos h]
        simp [h]
        simpa using ih
      · rw [show (grpF ms f ∘ (PyData.int ∘ fun k : Nat => (k : Int))) p = none from if_neg h]
        simp [h]
        simpa using ih
  exact this _
def LpI (m : Int) (ts : List (Int × Int)) (q : Nat) (r : Ro) : Prop := ∃ x2 x3 x4 x5 x6, r = [.frz false (webD m ts), .own false (.lst ((marks m (ts.take q)).map .int)), x2, x3, x4, x5, x6, .non] ∧ Fr x2 ∧ Fr x3 ∧ Fr x4 ∧ Fr x5 ∧ Fr x6
def LpJ (m : Int) (ts : List (Int × Int)) (q : Nat) (t : Int × Int) (lo hi : Int) (k : Nat) (r : Ro) : Prop := ∃ x4, r = [.frz false (webD m ts), .own false (.lst ((relK lo hi k (marks m (ts.take q))).map .int)), .frz false (.int t.1), .frz false (.int t.2), x4, .frz false (.int lo), .frz false (.int hi), .non] ∧ Fr x4
set_option maxHeartbeats 4000000 in
theorem Lparts_ok {m : Int} {ts : List (Int × Int)} (hm : 1 ≤ m ∧ m ≤ 60) (hl : ts.length ≤ 1000) (ht : TiesOk m ts) : Oks sem_Lparts_9bff [.fz (webD m ts)] fun v ys => v = .ok (.new (.lst (partsD m ts))) ∧ ys = [.fz (webD m ts)] := by
  have lb : (lineD : Nat) = 16777216 := rfl
  have o1 : okR m = true := by unfold okR; simp; omega
  have o2 : -4611686018427387904 ≤ m := by omega
  have o3 : m < 4611686018427387904 := by omega
  have l1 : (rng 0 m).length ≤ lineD := by rw [rng0_len]; omega
  have w0 : gIx [.fz (webD m ts), .fz (.int 0)] = some (.val (.int m)) := by
    unfold webD
    rw [gIx_t, ixP_0]
    rfl
  have w1 : gIx [.fz (webD m ts), .fz (.int 1)] = some (.val (.tuple (ts.map tieD))) := by
    unfold webD
    rw [gIx_t, ixP_1]
    rfl
  refine oks_def rfl ?_
  simp [-getElem?_pos, -getElem?_neg, List.getElem?_cons_zero, List.getElem?_cons_succ, b_Lparts_9bff, w0, w1, o1, l1]
  refine forS_inv (LpI m ts) _ 0 _ ?_ (fun q d r hd hI => ?_) (fun r hI => ?_)
  · exact ⟨_, _, _, _, _, by rw [rng_ints]; rfl, .non, .non, .non, .non, .non⟩
  · rw [Nat.zero_add] at hI ⊢
    obtain ⟨x2, x3, x4, x5, x6, rfl, h2, h3, h4, h5, h6⟩ := hI
    rw [List.getElem?_map] at hd
    cases htq : ts[q]? with
    | none => rw [htq] at hd; cases hd
    | some t =>
      rw [htq] at hd
      cases hd
      have htt := ht t (List.mem_of_getElem? htq)
      have hml := marks_len m (ts.take q)
      obtain ⟨a1, _⟩ := mkAt_ok (ms := marks m (ts.take q)) htt.1.1 (by omega)
      obtain ⟨a2, _⟩ := mkAt_ok (ms := marks m (ts.take q)) htt.2.1 (by omega)
      simp [-getElem?_pos, -getElem?_neg, List.getElem?_cons_zero, List.getElem?_cons_succ, tieD, h2.pin, h3.pin, h4.pin, h5.pin, h6.pin, a1, a2, w0, o1, o2, o3]
      have es := marks_take m ts htq
      unfold mstep at es
      revert es
      generalize (if mkAt (marks m (List.take q ts)) t.2 < mkAt (marks m (List.take q ts)) t.1 then mkAt (marks m (List.take q ts)) t.2 else mkAt (marks m (List.take q ts)) t.1) = lo
      simp only [gt_iff_lt]
      generalize (if mkAt (marks m (List.take q ts)) t.1 < mkAt (marks m (List.take q ts)) t.2 then mkAt (marks m (List.take q ts)) t.2 else mkAt (marks m (List.take q ts)) t.1) = hi
      intro es
      refine forS_inv (LpJ m ts q t lo hi) (rng 0 m) 0 _ ?_ (fun k d r hd hI => ?_) (fun r hI => ?_)
      · exact ⟨x4, by simp [relK], h4⟩
      · obtain ⟨rfl, hk⟩ := rng0_get hd
        rw [Nat.zero_add] at hI ⊢
        obtain ⟨x4, rfl, h4⟩ := hI
        have hk2 : k < (marks m (ts.take q)).length := by omega
        have hg : (marks m (ts.take q))[k]? = some ((marks m (ts.take q))[k]) := List.getElem?_eq_getElem hk2
        have hr := relK_get (lo := lo) (hi := hi) hg
        have hx : ixP ((relK lo hi k (marks m (ts.take q))).map PyData.int) (k : Int) = some (.int ((marks m (ts.take q))[k])) := ixP_nat (by rw [List.getElem?_map, hr]; rfl)
        have hxd : ixD (relK lo hi k (marks m (ts.take q))).length (k : Int) = some k := ixD_nat (by rw [relK_len]; exact hk2)
        by_cases he : (marks m (ts.take q))[k] = hi
        · simp [-getElem?_pos, -getElem?_neg, List.getElem?_cons_zero, List.getElem?_cons_succ, h4.pin, hx, he, hxd]
          refine ⟨.frz false (.int k), ?_, .frz⟩
          rw [relK_step hg, show rl lo hi (marks m (ts.take q))[k] = lo from if_pos he]
          simp
        · simp [-getElem?_pos, -getElem?_neg, List.getElem?_cons_zero, List.getElem?_cons_succ, h4.pin, hx, he]
          refine ⟨.frz false (.int k), ?_, .frz⟩
          rw [relK_same hg he]
      · obtain ⟨x4, rfl, h4⟩ := hI
        rw [Nat.zero_add, rng0_len]
        have e : relK lo hi m.toNat (marks m (ts.take q)) = marks m (ts.take (q + 1)) := by
          rw [es]
          unfold relK
          rw [List.take_of_length_le (by omega), List.drop_eq_nil_of_le (by omega), List.append_nil]
        rw [e]
        exact ⟨_, _, _, _, _, rfl, .frz, .frz, h4, .frz, .frz⟩
  · obtain ⟨x2, x3, x4, x5, x6, rfl, h2, h3, h4, h5, h6⟩ := hI
    rw [Nat.zero_add, List.length_map, List.take_length]
    have hml := marks_len m ts
    have l2 : (marks m ts).length < 64 := by omega
    simp [-getElem?_pos, -getElem?_neg, List.getElem?_cons_zero, List.getElem?_cons_succ, l2, anyPin]
    refine lcK_inv (fun j acc r => acc = ((dsort (marks m ts)).take j).map (fun f => lstI (grp (marks m ts) f)) ∧ ∃ x4, r = [.frz false (webD m ts), .own false (.lst ((marks m ts).map .int)), x2, x3, x4, x5, x6, .non] ∧ Fr x4) (n := 0) ⟨rfl, _, rfl, h4⟩ (by have := dsort_len (marks m ts); simp; omega) (fun j d acc r hd hI => ?_) (fun zs r hI => ?_)
    · rw [Nat.zero_add] at hI ⊢
      obtain ⟨rfl, x4, rfl, h4⟩ := hI
      rw [List.getElem?_map] at hd
      cases hf : (dsort (marks m ts))[j]? with
      | none => rw [hf] at hd; cases hd
      | some f =>
        rw [hf] at hd
        cases hd
        simp [-getElem?_pos, -getElem?_neg, List.getElem?_cons_zero, List.getElem?_cons_succ, w0, o1, o2, o3, anyPin, h4.pin]
        refine lcK_of (grpF (marks m ts) f) (fun d hd => ?_) (by rw [List.length_nil, rng0_len]; omega) ?_
        · obtain ⟨k, hk⟩ := List.mem_iff_getElem?.mp hd
          obtain ⟨rfl, hk⟩ := rng0_get hk
          obtain ⟨a1, _⟩ := mkAt_ok (ms := marks m ts) (a := (k : Int)) (by omega) (by omega)
          by_cases he : mkAt (marks m ts) (k : Int) = f
          · simp [-getElem?_pos, -getElem?_neg, List.getElem?_cons_zero, List.getElem?_cons_succ, a1, he, grpF]
          · simp [-getElem?_pos, -getElem?_neg, List.getElem?_cons_zero, List.getElem?_cons_succ, a1, he, grpF]
        · rw [grpF_rng hml]
          simp [-getElem?_pos, -getElem?_neg, List.getElem?_cons_zero, List.getElem?_cons_succ]
          refine ⟨?_, .non⟩
          rw [List.take_add_one, List.getElem?_map, hf]
          rfl
    · obtain ⟨rfl, x4, rfl, h4⟩ := hI
      simp [-getElem?_pos, -getElem?_neg, List.getElem?_cons_zero, List.getElem?_cons_succ]
      simp [partsD, partsI]
end Lw
end

section
namespace Lw
open PySem DL
theorem put_keys (kvs : List (Ky × List D)) (k : Ky) (d : D) : (putL kvs k d).map (·.1) = if (kvs.any fun kv => decide (kv.1 = k)) = true then kvs.map (·.1) else kvs.map (·.1) ++ [k] := by
  unfold putL
  split
  · rw [List.map_map]
    refine List.map_congr_left fun kv _ => ?_
    simp only [Function.comp]
    split <;> rfl
  · simp
theorem look_map (f n : Int) (d : D) : ∀ kvs : List (Ky × List D), (n = f → (kvs.any fun kv => decide (kv.1 = .inl f)) = true) →
    lookL (kvs.map fun kv => if kv.1 = .inl f then (kv.1, kv.2 ++ [d]) else kv) n = if n = f then lookL kvs f ++ [d] else lookL kvs n
  | [], h => by
    by_cases e : n = f
    · exact absurd (h e) (by simp)
    · rw [if_neg e]; rfl
  | kv :: t, h => by
    by_cases k1 : kv.1 = .inl n
    · by_cases e : n = f
      · subst e
        unfold lookL
        rw [List.map_cons, if_pos k1, List.find?_cons, List.find?_cons]
        simp [k1]
      · have k2 : ¬ kv.1 = .inl f := fun z => e (by rw [k1] at z; exact Sum.inl.inj z)
        unfold lookL
        rw [List.map_cons, if_neg k2, List.find?_cons, List.find?_cons, if_neg e]
        simp [k1]
    · have hk : ((if kv.1 = .inl f then (kv.1, kv.2 ++ [d]) else kv) : Ky × List D).1 = kv.1 := by split <;> rfl
      have ih := look_map f n d t (fun e => by
        have := h e
        rw [List.any_cons, Bool.or_eq_true] at this
        rcases this with z | z
        · simp only [decide_eq_true_eq] at z
          exact absurd (by rw [e]; exact z) k1
        · exact z)
      have l1 : lookL (((if kv.1 = .inl f then (kv.1, kv.2 ++ [d]) else kv) : Ky × List D) :: (t.map fun kv => if kv.1 = .inl f then (kv.1, kv.2 ++ [d]) else kv)) n = lookL (t.map fun kv => if kv.1 = .inl f then (kv.1, kv.2 ++ [d]) else kv) n := by
        unfold lookL
        rw [List.find?_cons]
        simp [hk, k1]
      have l2 : lookL (kv :: t) n = lookL t n := by
        unfold lookL
        rw [List.find?_cons]
        simp [k1]
      rw [List.map_cons, l1, ih, l2]
      by_cases e : n = f
      · subst e
        rw [if_pos rfl, if_pos rfl, l2]
      · rw [if_neg e, if_neg e]
theorem look_put (kvs : List (Ky × List D)) (f n : Int) (d : D) : lookL (putL kvs (.inl f) d) n = if n = f then lookL kvs f ++ [d] else lookL kvs n := by
  unfold putL
  by_cases h : (kvs.any fun kv => decide (kv.1 = .inl f)) = true
  · rw [if_pos h]
    exact look_map f n d kvs fun _ => h
  · rw [if_neg h]
    have nf : kvs.find? (fun kv => decide (kv.1 = .inl f)) = none := by
      rw [List.find?_eq_none]
      intro kv hk hz
      exact h (List.any_eq_true.mpr ⟨kv, hk, hz⟩)
    by_cases e : n = f
    · subst e
      rw [if_pos rfl]
      unfold lookL
      rw [List.find?_append, nf]
      simp
    · rw [if_neg e]
      unfold lookL
      rw [List.find?_append]
      cases q : kvs.find? fun kv => decide (kv.1 = .inl n) with
      | some kv => rfl
      | none =>
        have : ¬ f = n := fun z => e z.symm
        simp [this]
theorem intK_of : ∀ {kvs : List (Ky × List D)} {ns : List Int}, kvs.map (·.1) = ns.map Sum.inl → intK kvs = some ns
  | [], [], _ => rfl
  | [], _ :: _, h => by simp at h
  | _ :: _, [], h => by simp at h
  | (k, ds) :: t, n :: ns, h => by
    simp only [List.map_cons, List.cons.injEq] at h
    obtain ⟨h1, h2⟩ := h
    subst h1
    simp only [intK]
    rw [intK_of h2]
    rfl
structure GrpK (ms : List Int) (k : Nat) (kvs : List (Ky × List D)) (ns : List Int) : Prop where
  keys : kvs.map (·.1) = ns.map Sum.inl
  nd : ns.Nodup
  mem : ∀ n, n ∈ ns ↔ ∃ p : Nat, p < k ∧ mkAt ms (p : Int) = n
  look : ∀ n ∈ ns, lookL kvs n = (((List.range k).filter fun p : Nat => mkAt ms (p : Int) == n).map fun p : Nat => (p : Int)).map .int
  lens : ∀ kv ∈ kvs, kv.2.length ≤ k
  len : kvs.length ≤ k
theorem GrpK.zero (ms : List Int) : GrpK ms 0 [] [] := ⟨rfl, .nil, fun n => by simp, (fun n (h : n ∈ []) => by cases h), (fun kv (h : kv ∈ []) => by cases h), Nat.le_refl _⟩
theorem GrpK.step {ms : List Int} {k : Nat} {kvs : List (Ky × List D)} {ns : List Int} (h : GrpK ms k kvs ns) : GrpK ms (k + 1) (putL kvs (.inl (mkAt ms (k : Int))) (.int (k : Int))) (if mkAt ms (k : Int) ∈ ns then ns else ns ++ [mkAt ms (k : Int)]) := by
  have hany : ((kvs.any fun kv => decide (kv.1 = .inl (mkAt ms (k : Int)))) = true) ↔ mkAt ms (k : Int) ∈ ns := by
    rw [List.any_eq_true]
    constructor
    · rintro ⟨kv, h1, h2⟩
      have h3 : (Sum.inl (mkAt ms (k : Int)) : Ky) ∈ kvs.map (·.1) := List.mem_map.mpr ⟨kv, h1, by simpa using h2⟩
      rw [h.keys] at h3
      obtain ⟨n, h4, h5⟩ := List.mem_map.mp h3
      rw [← Sum.inl.inj h5]
      exact h4
    · intro h1
      have h3 : (Sum.inl (mkAt ms (k : Int)) : Ky) ∈ kvs.map (·.1) := by rw [h.keys]; exact List.mem_map.mpr ⟨_, h1, rfl⟩
      obtain ⟨kv, h4, h5⟩ := List.mem_map.mp h3
      exact ⟨kv, h4, by simpa using h5⟩
  refine ⟨?_, ?_, fun n => ?_, fun n hn => ?_, fun kv hkv => ?_, ?_⟩
  · rw [put_keys]
    by_cases hm : mkAt ms (k : Int) ∈ ns
    · rw [if_pos (hany.mpr hm), if_pos hm, h.keys]
    · rw [if_neg (fun z => hm (hany.mp z)), if_neg hm, h.keys, List.map_append]
      rfl
  · by_cases hm : mkAt ms (k : Int) ∈ ns
    · rw [if_pos hm]; exact h.nd
    · rw [if_neg hm, List.nodup_append]
      exact ⟨h.nd, by simp, fun a ha b hb e => by simp at hb; subst hb; exact hm (e ▸ ha)⟩
  · have e1 : (∃ p : Nat, p < k + 1 ∧ mkAt ms (p : Int) = n) ↔ (∃ p : Nat, p < k ∧ mkAt ms (p : Int) = n) ∨ mkAt ms (k : Int) = n := by
      constructor
      · rintro ⟨p, h1, h2⟩
        by_cases hp : p = k
        · subst hp; exact .inr h2
        · exact .inl ⟨p, by omega, h2⟩
      · rintro (⟨p, h1, h2⟩ | h2)
        · exact ⟨p, by omega, h2⟩
        · exact ⟨k, by omega, h2⟩
    rw [e1, ← h.mem]
    by_cases hm : mkAt ms (k : Int) ∈ ns
    · rw [if_pos hm]
      exact ⟨.inl, fun z => z.elim id fun z => z ▸ hm⟩
    · rw [if_neg hm, List.mem_append, List.mem_singleton]
      exact ⟨fun z => z.imp id Eq.symm, fun z => z.imp id Eq.symm⟩
  · rw [look_put, List.range_succ, List.filter_append, List.map_append, List.map_append]
    by_cases e : n = mkAt ms (k : Int)
    · rw [if_pos e]
      have e2 : lookL kvs (mkAt ms (k : Int)) = (((List.range k).filter fun p : Nat => mkAt ms (p : Int) == n).map fun p : Nat => (p : Int)).map .int := by
        by_cases hm : mkAt ms (k : Int) ∈ ns
        · rw [← e, h.look n (e ▸ hm)]
        · have no : (List.range k).filter (fun p : Nat => mkAt ms (p : Int) == n) = [] := by
            rw [List.filter_eq_nil_iff]
            intro p hp hz
            exact hm ((h.mem _).mpr ⟨p, List.mem_range.mp hp, by rw [← e]; simpa using hz⟩)
          rw [no]
          have nf : kvs.find? (fun kv => decide (kv.1 = .inl (mkAt ms (k : Int)))) = none := by
            rw [List.find?_eq_none]
            intro kv hk hz
            exact hm (hany.mp (List.any_eq_true.mpr ⟨kv, hk, hz⟩))
          unfold lookL
          rw [nf]
          rfl
      have e3 : (mkAt ms (k : Int) == n) = true := by rw [e]; simp
      rw [e2, List.filter_cons, if_pos e3]
      rfl
    · have hn2 : n ∈ ns := by
        by_cases hm : mkAt ms (k : Int) ∈ ns
        · rw [if_pos hm] at hn; exact hn
        · rw [if_neg hm, List.mem_append, List.mem_singleton] at hn
          exact hn.elim id fun z => absurd z e
      rw [if_neg e, h.look n hn2]
      have : ¬ mkAt ms (k : Int) = n := fun z => e z.symm
      simp [this]
  · unfold putL at hkv
    split at hkv
    · obtain ⟨kv', h1, rfl⟩ := List.mem_map.mp hkv
      have := h.lens kv' h1
      split
      · simp; omega
      · omega
    · rcases List.mem_append.mp hkv with h1 | h1
      · have := h.lens kv h1
        omega
      · simp at h1
        subst h1
        simp
  · have hl := h.len
    unfold putL
    split
    · simp; omega
    · simp; omega
theorem GrpK.done {ms : List Int} {kvs : List (Ky × List D)} {ns : List Int} (h : GrpK ms ms.length kvs ns) : (ns.mergeSort fun a b => decide (a ≤ b)) = dsort ms ∧ (dsort ms).map (lookL kvs) = (dsort ms).map fun n => (grp ms n).map .int := by
  have hmem : ∀ n, n ∈ ns ↔ n ∈ ms := fun n => by
    rw [h.mem]
    constructor
    · rintro ⟨p, h1, h2⟩
      obtain ⟨_, h3⟩ := mkAt_ok (ms := ms) (a := (p : Int)) (by omega) (by omega)
      rw [h2] at h3
      exact List.mem_of_getElem? h3
    · intro hn
      obtain ⟨p, h1, h2⟩ := List.mem_iff_getElem.mp hn
      refine ⟨p, h1, ?_⟩
      unfold mkAt
      rw [List.getD_eq_getElem?_getD, Int.toNat_natCast, List.getElem?_eq_getElem h1, ← h2]
      rfl
  have hs : (ns.mergeSort fun a b => decide (a ≤ b)) = dsort ms := by
    refine dsort_uniq ?_ fun k => by rw [List.mem_mergeSort, hmem]
    have nd : (ns.mergeSort fun a b => decide (a ≤ b)).Nodup := (List.mergeSort_perm ..).nodup_iff.mpr h.nd
    have pw := srt_pwI ns
    have := pw.and (List.nodup_iff_pairwise_ne.mp nd)
    exact this.imp fun h => by
      have h1 := of_decide_eq_true h.1
      have h2 := h.2
      omega
  refine ⟨hs, List.map_congr_left fun n hn => ?_⟩
  rw [dsort_mem, ← hmem] at hn
  exact h.look n hn
end Lw
end

section
namespace Lw
open PySem DL
def PbI (m : Int) (ts : List (Int × Int)) (q : Nat) (r : Ro) : Prop := ∃ x4 x5 x6 x7 x8, r = [.frz false (.int m), .frz false (.tuple (ts.map tieD)), .own false (.lst ((marks m (ts.take q)).map .int)), .non, x4, x5, x6, x7, x8, .non] ∧ Fr x4 ∧ Fr x5 ∧ Fr x6 ∧ Fr x7 ∧ Fr x8
def PbJ (m : Int) (ts : List (Int × Int)) (q : Nat) (t : Int × Int) (lo hi : Int) (k : Nat) (r : Ro) : Prop := ∃ x4, r = [.frz false (.int m), .frz false (.tuple (ts.map tieD)), .own false (.lst ((relK lo hi k (marks m (ts.take q))).map .int)), .non, x4, .frz false (.int t.1), .frz false (.int t.2), .frz false (.int lo), .frz false (.int hi), .non] ∧ Fr x4
def PbK (m : Int) (ts : List (Int × Int)) (k : Nat) (r : Ro) : Prop := ∃ kvs ns x3 x4 x5 x6 x7 x8, r = [.frz false (.int m), .frz false (.tuple (ts.map tieD)), .own false (.lst ((marks m ts).map .int)), x3, x4, x5, x6, x7, x8, .non] ∧ dlO (some x3) = some (false, kvs) ∧ alB 3 x3 = true ∧ GrpK (marks m ts) k kvs ns ∧ Fr x4 ∧ Fr x5 ∧ Fr x6 ∧ Fr x7 ∧ Fr x8
set_option maxHeartbeats 4000000 in
theorem parts_by_ok {m : Int} {ts : List (Int × Int)} (hm : 1 ≤ m ∧ m ≤ 60) (hl : ts.length ≤ 1000) (ht : TiesOk m ts) : Oks sem_parts_by_ccdf [.fz (.int m), .fz (.tuple (ts.map tieD))] fun v ys => v = .ok (.new (.ll ((partsI (marks m ts)).map fun l => l.map .int))) ∧ ys = [.fz (.int m), .fz (.tuple (ts.map tieD))] := by
  have lb : (lineD : Nat) = 16777216 := rfl
  have o1 : okR m = true := by unfold okR; simp; omega
  have o2 : -4611686018427387904 ≤ m := by omega
  have o3 : m < 4611686018427387904 := by omega
  have l1 : (rng 0 m).length ≤ lineD := by rw [rng0_len]; omega
  refine oks_def rfl ?_
  simp [-getElem?_pos, -getElem?_neg, List.getElem?_cons_zero, List.getElem?_cons_succ, b_parts_by_ccdf, o1, l1]
  refine forS_inv (PbI m ts) _ 0 _ ?_ (fun q d r hd hI => ?_) (fun r hI => ?_)
  · exact ⟨_, _, _, _, _, by rw [rng_ints]; rfl, .non, .non, .non, .non, .non⟩
  · rw [Nat.zero_add] at hI ⊢
    obtain ⟨x4, x5, x6, x7, x8, rfl, h4, h5, h6, h7, h8⟩ := hI
    rw [List.getElem?_map] at hd
    cases htq : ts[q]? with
    | none => rw [htq] at hd; cases hd
    | some t =>
      rw [htq] at hd
      cases hd
      have htt := ht t (List.mem_of_getElem? htq)
      have hml := marks_len m (ts.take q)
      obtain ⟨a1, _⟩ := mkAt_ok (ms := marks m (ts.take q)) htt.1.1 (by omega)
      obtain ⟨a2, _⟩ := mkAt_ok (ms := marks m (ts.take q)) htt.2.1 (by omega)
      simp [-getElem?_pos, -getElem?_neg, List.getElem?_cons_zero, List.getElem?_cons_succ, tieD, h4.pin, h5.pin, h6.pin, h7.pin, h8.pin, a1, a2, o1, o2, o3]
      have es := marks_take m ts htq
      unfold mstep at es
      revert es
      generalize (if mkAt (marks m (List.take q ts)) t.2 < mkAt (marks m (List.take q ts)) t.1 then mkAt (marks m (List.take q ts)) t.2 else mkAt (marks m (List.take q ts)) t.1) = lo
      simp only [gt_iff_lt]
      generalize (if mkAt (marks m (List.take q ts)) t.1 < mkAt (marks m (List.take q ts)) t.2 then mkAt (marks m (List.take q ts)) t.2 else mkAt (marks m (List.take q ts)) t.1) = hi
      intro es
      refine forS_inv (PbJ m ts q t lo hi) (rng 0 m) 0 _ ?_ (fun k d r hd hI => ?_) (fun r hI => ?_)
      · exact ⟨x4, by simp [relK, tieD], h4⟩
      · obtain ⟨rfl, hk⟩ := rng0_get hd
        rw [Nat.zero_add] at hI ⊢
        obtain ⟨x4, rfl, h4⟩ := hI
        have hk2 : k < (marks m (ts.take q)).length := by omega
        have hg : (marks m (ts.take q))[k]? = some ((marks m (ts.take q))[k]) := List.getElem?_eq_getElem hk2
        have hr := relK_get (lo := lo) (hi := hi) hg
        have hx : ixP ((relK lo hi k (marks m (ts.take q))).map PyData.int) (k : Int) = some (.int ((marks m (ts.take q))[k])) := ixP_nat (by rw [List.getElem?_map, hr]; rfl)
        have hxd : ixD (relK lo hi k (marks m (ts.take q))).length (k : Int) = some k := ixD_nat (by rw [relK_len]; exact hk2)
        by_cases he : (marks m (ts.take q))[k] = hi
        · simp [-getElem?_pos, -getElem?_neg, List.getElem?_cons_zero, List.getElem?_cons_succ, h4.pin, hx, he, hxd]
          refine ⟨.frz false (.int k), ?_, .frz⟩
          rw [relK_step hg, show rl lo hi (marks m (ts.take q))[k] = lo from if_pos he]
          simp
        · simp [-getElem?_pos, -getElem?_neg, List.getElem?_cons_zero, List.getElem?_cons_succ, h4.pin, hx, he]
          refine ⟨.frz false (.int k), ?_, .frz⟩
          rw [relK_same hg he]
      · obtain ⟨x4, rfl, h4⟩ := hI
        rw [Nat.zero_add, rng0_len]
        have e : relK lo hi m.toNat (marks m (ts.take q)) = marks m (ts.take (q + 1)) := by
          rw [es]
          unfold relK
          rw [List.take_of_length_le (by omega), List.drop_eq_nil_of_le (by omega), List.append_nil]
        rw [e]
        exact ⟨_, _, _, _, _, rfl, h4, .frz, .frz, .frz, .frz⟩
  · obtain ⟨x4, x5, x6, x7, x8, rfl, h4, h5, h6, h7, h8⟩ := hI
    rw [Nat.zero_add, List.length_map, List.take_length]
    have hml := marks_len m ts
    simp [-getElem?_pos, -getElem?_neg, List.getElem?_cons_zero, List.getElem?_cons_succ, o1, o2, o3]
    refine forS_inv (PbK m ts) (rng 0 m) 0 _ ?_ (fun k d r hd hI => ?_) (fun r hI => ?_)
    · exact ⟨[], [], _, _, _, _, _, _, rfl, rfl, rfl, .zero _, h4, h5, h6, h7, h8⟩
    · obtain ⟨rfl, hk⟩ := rng0_get hd
      rw [Nat.zero_add] at hI ⊢
      obtain ⟨kvs, ns, x3, x4, x5, x6, x7, x8, rfl, h3, h3a, hg, h4, h5, h6, h7, h8⟩ := hI
      obtain ⟨a1, _⟩ := mkAt_ok (ms := marks m ts) (a := (k : Int)) (by omega) (by omega)
      have ok : dlOk kvs := ⟨by have := hg.len; omega, List.all_eq_true.mpr fun kv hkv => by have := hg.lens kv hkv; simp; omega, by rw [hg.keys, List.nodup_iff_pairwise_ne, List.pairwise_map]; exact (List.nodup_iff_pairwise_ne.mp hg.nd).imp fun h e => h (Sum.inl.inj e)⟩
      simp [-getElem?_pos, -getElem?_neg, List.getElem?_cons_zero, List.getElem?_cons_succ, h4.pin, h3, a1, ok]
      exact ⟨_, _, _, _, _, _, _, _, rfl, rfl, rfl, hg.step, .frz, h5, h6, h7, h8⟩
    · obtain ⟨kvs, ns, x3, x4, x5, x6, x7, x8, rfl, h3, h3a, hg, h4, h5, h6, h7, h8⟩ := hI
      rw [Nat.zero_add, rng0_len, ← hml] at hg
      obtain ⟨d1, d2⟩ := hg.done
      have hik := intK_of hg.keys
      have hnl : ns.length < 64 := by
        have h1 := hg.len
        have h2 := congrArg List.length hg.keys
        simp at h2
        omega
      simp [-getElem?_pos, -getElem?_neg, List.getElem?_cons_zero, List.getElem?_cons_succ, h3, hik, rdlOk, hnl, hg.nd, anyPin]
      refine ⟨⟨h3a, h4.al _, h5.al _, h6.al _, h7.al _, h8.al _⟩, ?_⟩
      rw [d1, d2]
      simp [partsI]
theorem web_0 {m : Int} {ts : List (Int × Int)} : gIx [.fz (webD m ts), .fz (.int 0)] = some (.val (.int m)) := by
  unfold webD
  rw [gIx_t, ixP_0]
  rfl
theorem web_1 {m : Int} {ts : List (Int × Int)} : gIx [.fz (webD m ts), .fz (.int 1)] = some (.val (.tuple (ts.map tieD))) := by
  unfold webD
  rw [gIx_t, ixP_1]
  rfl
theorem parts_of_ok {m : Int} {ts : List (Int × Int)} (hm : 1 ≤ m ∧ m ≤ 60) (hl : ts.length ≤ 1000) (ht : TiesOk m ts) : Oks sem_parts_of_a581 [.fz (webD m ts)] fun v ys => v = .ok (.val (.list (partsD m ts))) ∧ ys = [.fz (webD m ts)] := by
  obtain ⟨_, _, e1, rfl, rfl⟩ := parts_by_ok hm hl ht
  refine oks_def rfl ?_
  simp [-getElem?_pos, -getElem?_neg, List.getElem?_cons_zero, List.getElem?_cons_succ, b_parts_of_a581, web_0, web_1, e1]
  simp [partsD, lstI]
section
variable {m : Int} {ts : List (Int × Int)} {rows : List (List Int)}
/-- twice the holes -/
noncomputable def twiceN (m : Int) (ts : List (Int × Int)) (rows : List (List Int)) : Int := 2 * ((partsD m ts).length : Int) - m + (ts.length : Int) - ((facesD ts rows).length : Int)
end
end Lw
end

section
namespace Lw
open PySem DL
def TpD : Nat → D → Prop
  | _, .int _ => True
  | k + 1, .tuple ds => ds.length ≤ 1000000 ∧ ∀ d ∈ ds, TpD k d
  | _, _ => False
section
variable {m p its m1 m2 : Int} {ts ts1 ts2 : List (Int × Int)}
end
end Lw
end

section
namespace Lw
open PySem DL
section
variable {m p its m1 m2 : Int} {ts ts1 ts2 : List (Int × Int)}
end
end Lw
end

section
namespace Lw
open PySem DL
/-- a row begun with its least -/
def begI : List Int → List Int
  | [] => []
  | n :: ns => (n :: ns).drop (((n :: ns).findIdx? (· == ns.foldl min n)).getD 0) ++ (n :: ns).take (((n :: ns).findIdx? (· == ns.foldl min n)).getD 0)
theorem foldl_min_mem : ∀ (ns : List Int) (n : Int), ns.foldl min n ∈ n :: ns
  | [], n => by simp
  | m :: ns, n => by
    rw [List.foldl_cons]
    have := foldl_min_mem ns (min n m)
    rcases List.mem_cons.mp this with h | h
    · rw [h]
      rcases Int.le_total n m with hh | hh
      · rw [Int.min_eq_left hh]; simp
      · rw [Int.min_eq_right hh]; simp
    · simp [h]
theorem foldl_min_le : ∀ (ns : List Int) (n : Int), ∀ y ∈ n :: ns, ns.foldl min n ≤ y
  | [], n, y, h => by
    simp at h
    subst h
    exact Int.le_refl _
  | m :: ns, n, y, h => by
    rw [List.foldl_cons]
    have h0 := foldl_min_le ns (min n m) (min n m) (by simp)
    have h1 : min n m ≤ n := Int.min_le_left ..
    have h2 : min n m ≤ m := Int.min_le_right ..
    rcases List.mem_cons.mp h with rfl | h
    · omega
    · rcases List.mem_cons.mp h with rfl | h
      · omega
      · exact foldl_min_le ns (min n m) y (by simp [h])
theorem min_find (n : Int) (ns : List Int) : ∃ j, (n :: ns).findIdx? (· == ns.foldl min n) = some j ∧ j < ns.length + 1 := by
  cases h : (n :: ns).findIdx? (· == ns.foldl min n) with
  | none =>
    rw [List.findIdx?_eq_none_iff] at h
    have := h _ (foldl_min_mem ns n)
    simp at this
  | some j =>
    refine ⟨j, rfl, ?_⟩
    have := (List.findIdx?_eq_some_iff_findIdx_eq.mp h).1
    simpa using this
end Lw
end

section
namespace Lw
open PySem DL
theorem rl_eq {lo hi x y : Int} : rl lo hi x = rl lo hi y ↔ x = y ∨ ((x = lo ∨ x = hi) ∧ (y = lo ∨ y = hi)) := by
  unfold rl
  by_cases h1 : x = hi <;> by_cases h2 : y = hi
  · simp [h1, h2]
  · rw [if_pos h1, if_neg h2]
    constructor
    · intro h; exact .inr ⟨.inr h1, .inl h.symm⟩
    · rintro (h | ⟨_, h | h⟩)
      · exact absurd (h.symm.trans h1) h2
      · exact h.symm
      · exact absurd h h2
  · rw [if_neg h1, if_pos h2]
    constructor
    · intro h; exact .inr ⟨.inl h, .inr h2⟩
    · rintro (h | ⟨h | h, _⟩)
      · exact absurd (h.trans h2) h1
      · exact h
      · exact absurd h h1
  · rw [if_neg h1, if_neg h2]
    constructor
    · intro h; exact .inl h
    · rintro (h | ⟨h | h, h' | h'⟩)
      · exact h
      · exact h.trans h'.symm
      · exact absurd h' h2
      · exact absurd h h1
      · exact absurd h h1
theorem mkAt_map {g : Int → Int} {l : List Int} {x : Int} (h0 : 0 ≤ x) (h1 : x < l.length) : mkAt (l.map g) x = g (mkAt l x) := by
  unfold mkAt
  rw [List.getD_eq_getElem?_getD, List.getD_eq_getElem?_getD, List.getElem?_map, List.getElem?_eq_getElem (by omega)]
  rfl
/-- one tie more: what hangs together -/
theorem mstep_eq {ms : List Int} {t : Int × Int} {x y : Int} (hx : 0 ≤ x ∧ x < ms.length) (hy : 0 ≤ y ∧ y < ms.length) :
    mkAt (mstep ms t) x = mkAt (mstep ms t) y ↔ mkAt ms x = mkAt ms y ∨ ((mkAt ms x = mkAt ms t.1 ∨ mkAt ms x = mkAt ms t.2) ∧ (mkAt ms y = mkAt ms t.1 ∨ mkAt ms y = mkAt ms t.2)) := by
  unfold mstep
  rw [mkAt_map hx.1 hx.2, mkAt_map hy.1 hy.2, rl_eq]
  generalize mkAt ms t.1 = a
  generalize mkAt ms t.2 = b
  by_cases h : b < a
  · rw [if_pos h, if_neg (by omega)]
    constructor
    · rintro (h | ⟨h1, h2⟩)
      · exact .inl h
      · exact .inr ⟨h1.symm, h2.symm⟩
    · rintro (h | ⟨h1, h2⟩)
      · exact .inl h
      · exact .inr ⟨h1.symm, h2.symm⟩
  · rw [if_neg h]
    by_cases h2 : b > a
    · rw [if_pos h2]
    · rw [if_neg h2]
      have : a = b := by omega
      subst this
      simp
end Lw
end

section
namespace Lw
open PySem DL
theorem rng0_mem {n : Int} {d : D} (h : d ∈ rng 0 n) : ∃ k : Nat, d = .int k ∧ (k : Int) < n := by
  obtain ⟨k, hk, e⟩ := List.mem_iff_getElem.mp h
  have := rng0_get (n := n) (k := k) (d := d) (by rw [List.getElem?_eq_getElem hk, e])
  exact ⟨k, this⟩
end Lw
end

section
namespace Lw
open PySem DL
theorem begI_spec (row : List Int) : (begI row).Perm row ∧ ∀ x xs, begI row = x :: xs → ∀ y ∈ row, x ≤ y := by
  cases row with
  | nil => exact ⟨.refl _, fun x xs e => by cases e⟩
  | cons n ns =>
    obtain ⟨j, hj, hj2⟩ := min_find n ns
    have e : begI (n :: ns) = (n :: ns).drop j ++ (n :: ns).take j := by
      simp only [begI, hj]
      rfl
    rw [e]
    refine ⟨(List.perm_append_comm).trans (by rw [List.take_append_drop]), fun x xs e2 y hy => ?_⟩
    have hg : (n :: ns)[j]? = some ((n :: ns)[j]'(by simpa using hj2)) := List.getElem?_eq_getElem (by simpa using hj2)
    rw [List.drop_eq_getElem_cons (by simpa using hj2)] at e2
    cases e2
    have := (List.findIdx?_eq_some_iff_getElem.mp hj).2.1
    have h2 : (n :: ns)[j]'(by simpa using hj2) = ns.foldl min n := by simpa using this
    rw [h2]
    exact foldl_min_le ns n y hy
theorem RowN.beg {ts : List (Int × Int)} {k q : Nat} {row : List Int} (nd : row.Nodup) (mem : ∀ e : Int, e ∈ row ↔ 0 ≤ e ∧ e < k ∧ plc ts e.toNat = q) : RowN ts k q (begI row) := by
  obtain ⟨h1, h2⟩ := begI_spec row
  have nd2 : (begI row).Nodup := h1.nodup_iff.mpr nd
  refine ⟨nd2, fun e => by rw [h1.mem_iff, mem], fun x xs e y hy => ?_, ?_⟩
  · have h3 := h2 x xs e y (h1.mem_iff.mp (by rw [e]; exact List.mem_cons_of_mem _ hy))
    have h4 : x ≠ y := fun w => by
      rw [e] at nd2
      subst w
      exact (List.nodup_cons.mp nd2).1 hy
    omega
  · have h3 := nodup_len k ((begI row).map Int.toNat) (by
      rw [List.nodup_iff_pairwise_ne, List.pairwise_map]
      refine List.Pairwise.imp_of_mem (R := (· ≠ ·)) (fun {a b} ha hb hab h => ?_) (List.nodup_iff_pairwise_ne.mp nd2)
      have a1 := (mem a).mp (h1.mem_iff.mp ha)
      have b1 := (mem b).mp (h1.mem_iff.mp hb)
      omega) (fun x hx => by
      obtain ⟨a, ha, rfl⟩ := List.mem_map.mp hx
      have a1 := (mem a).mp (h1.mem_iff.mp ha)
      omega)
    simpa using h3
def endsI (ts : List (Int × Int)) (p : Int) : List Int := ((List.range (2 * ts.length)).filter fun e => decide (plc ts e = p)).map fun e : Nat => (e : Int)
end Lw
end

section
namespace Lw
open PySem DL
section
variable {m1 m2 : Int} {ts1 ts2 : List (Int × Int)} {rows1 rows2 : List (List Int)} {p its : Nat}
theorem plc_bd {m : Int} {ts : List (Int × Int)} (ht : TiesOk m ts) {x : Nat} (hx : x < 2 * ts.length) : 0 ≤ plc ts x ∧ plc ts x < m := by
  obtain ⟨t, h1, _, _, h2⟩ := plc_get hx
  have := ht t h1
  rcases h2 with h2 | h2 <;> omega
end
end Lw
end

section
namespace Lw
open PySem DL
theorem grp_mem {ms : List Int} {f a : Int} : a ∈ grp ms f ↔ 0 ≤ a ∧ a < ms.length ∧ mkAt ms a = f := by
  unfold grp
  rw [List.mem_map]
  constructor
  · rintro ⟨p, h1, rfl⟩
    rw [List.mem_filter, List.mem_range] at h1
    exact ⟨by omega, by omega, by simpa using h1.2⟩
  · rintro ⟨h0, h1, h2⟩
    refine ⟨a.toNat, ?_, by omega⟩
    rw [List.mem_filter, List.mem_range]
    refine ⟨by omega, ?_⟩
    rw [show ((a.toNat : Nat) : Int) = a by omega, h2]
    simp
theorem mkAt_mem {ms : List Int} {a : Int} (h0 : 0 ≤ a) (h1 : a < ms.length) : mkAt ms a ∈ ms := List.mem_of_getElem? (mkAt_ok h0 h1).2
end Lw
end

section
namespace Lw
open PySem DL
theorem mkAt_range {m a : Int} (h0 : 0 ≤ a) (h1 : a < m) : mkAt (rangeI m) a = a := by
  unfold mkAt rangeI
  rw [List.getD_eq_getElem?_getD, List.getElem?_map, List.getElem?_range (by omega)]
  show ((a.toNat : Nat) : Int) = a
  omega
end Lw
end

section
namespace Lw
open PySem DL
section
variable {m : Int} {ts : List (Int × Int)} {rows : List (List Int)}
def plN (ts : List (Int × Int)) (x : Nat) : Nat := (plc ts x).toNat
def hangR (m : Int) (ts : List (Int × Int)) (k x y : Nat) : Prop := mkAt (marks m (ts.take k)) (x : Int) = mkAt (marks m (ts.take k)) (y : Int)
theorem plc_tie {k : Nat} {t : Int × Int} (h : ts[k]? = some t) : plc ts (2 * k) = t.1 ∧ plc ts (2 * k + 1) = t.2 := by
  unfold plc
  rw [show 2 * k / 2 = k by omega, show (2 * k + 1) / 2 = k by omega, h]
  exact ⟨if_pos (by omega), if_neg (by omega)⟩
theorem plN_cast (ht : TiesOk m ts) {x : Nat} (hx : x < 2 * ts.length) : ((plN ts x : Nat) : Int) = plc ts x ∧ plN ts x < m.toNat := by
  have := plc_bd ht hx
  unfold plN
  omega
theorem hang (ht : TiesOk m ts) : Hang ts.length m.toNat (plN ts) (hangR m ts) := by
  refine ⟨fun k _ => ⟨fun x _ => rfl, fun x y _ _ h => Eq.symm h, fun x y z _ _ _ h1 h2 => Eq.trans h1 h2⟩, fun x y hx hy => ?_, fun k hk x y hx hy => ?_⟩
  · unfold hangR
    rw [List.take_zero]
    show mkAt (rangeI m) x = mkAt (rangeI m) y ↔ _
    rw [mkAt_range (by omega) (by omega), mkAt_range (by omega) (by omega)]
    omega
  · obtain ⟨t, h⟩ : ∃ t, ts[k]? = some t := ⟨_, List.getElem?_eq_getElem hk⟩
    have hm := marks_len m (ts.take k)
    have c1 := (plN_cast ht (x := 2 * k) (by omega)).1
    have c2 := (plN_cast ht (x := 2 * k + 1) (by omega)).1
    rw [(plc_tie h).1] at c1
    rw [(plc_tie h).2] at c2
    unfold hangR
    rw [marks_take m ts h, mstep_eq (by omega) (by omega), c1, c2]
    generalize mkAt (marks m (ts.take k)) (x : Int) = a
    generalize mkAt (marks m (ts.take k)) (y : Int) = b
    generalize mkAt (marks m (ts.take k)) t.1 = c
    generalize mkAt (marks m (ts.take k)) t.2 = d
    constructor
    · rintro (h | ⟨h1 | h1, h2 | h2⟩)
      · exact .inl h
      · exact .inl (h1.trans h2.symm)
      · exact .inr (.inl ⟨h1, h2.symm⟩)
      · exact .inr (.inr ⟨h1, h2.symm⟩)
      · exact .inl (h1.trans h2.symm)
    · rintro (h | ⟨h1, h2⟩ | ⟨h1, h2⟩)
      · exact .inl h
      · exact .inr ⟨.inl h1, .inr h2.symm⟩
      · exact .inr ⟨.inr h1, .inl h2.symm⟩
theorem marks_tie (ht : TiesOk m ts) {k : Nat} (hk : k < ts.length) : mkAt (marks m ts) (plc ts (2 * k)) = mkAt (marks m ts) (plc ts (2 * k + 1)) := by
  have := (hang ht).tie (fun x hx => (plN_cast ht hx).2) ts.length (Nat.le_refl _) k hk
  unfold hangR at this
  rw [List.take_length, (plN_cast ht (x := 2 * k) (by omega)).1, (plN_cast ht (x := 2 * k + 1) (by omega)).1] at this
  exact this
theorem nx_stp (ho : OrdN m ts (2 * ts.length) rows) (ht : TiesOk m ts) : Stp (nxF ts rows) (· < 2 * ts.length) (2 * ts.length) := by
  refine stp_of id (fun x h => h) (fun x y _ _ h => h) (fun x hx => (nxF_ok ho ht hx).2) fun x y hx hy h => ?_
  rw [← pv_nx ho ht hx, h, pv_nx ho ht hy]
theorem nx_plc (ho : OrdN m ts (2 * ts.length) rows) (ht : TiesOk m ts) {x : Nat} (hx : x < 2 * ts.length) : plc ts (nxF ts rows x) = plc ts x := by
  obtain ⟨q, row, j, y, h1, h2, h3, h4, h5, h6, h7, h8, y', h9, h10⟩ := ho.at ht hx
  have hm := ((ho.row q row h2).mem y).mp (List.mem_of_getElem? h4)
  unfold nxF
  rw [h5]
  show plc ts y.toNat = _
  rw [hm.2.2, h1]
def faceP (A : Nat → Bool) : List Nat → Bool
  | [] => false
  | x :: _ => A x
theorem nx_same (ho : OrdN m ts (2 * ts.length) rows) (ht : TiesOk m ts) {x y : Nat} (hx : x < 2 * ts.length) (hy : y < 2 * ts.length) : SOr (nxF ts rows) x y ↔ plc ts x = plc ts y := by
  have s := nx_stp ho ht
  constructor
  · rintro ⟨n, rfl⟩
    clear hy
    induction n with
    | zero => rfl
    | succ n ih =>
      show _ = plc ts (nxF ts rows (itr (nxF ts rows) n x))
      rw [nx_plc ho ht (s.itr hx n)]
      exact ih
  · intro h
    obtain ⟨q, row, j, _, h1, h2, h3, _, _, _, h7, _⟩ := ho.at ht hx
    obtain ⟨q', row', j', _, g1, g2, g3, _⟩ := ho.at ht hy
    have hq : q = q' := by omega
    subst hq
    rw [h2] at g2
    cases g2
    have hj : j < row.length := (List.getElem?_eq_some_iff.mp h3).1
    have hj' : j' < row.length := (List.getElem?_eq_some_iff.mp g3).1
    have step : ∀ i, row[(j + i) % row.length]? = some ((itr (nxF ts rows) i x : Nat) : Int) := fun i => by
      induction i with
      | zero => rw [Nat.add_zero, Nat.mod_eq_of_lt hj]; exact h3
      | succ i ih =>
        have := next_at ho ht h2 ih
        rw [Int.toNat_natCast] at this
        rw [show (j + (i + 1)) % row.length = ((j + i) % row.length + 1) % row.length by rw [Nat.mod_add_mod, Nat.add_assoc]]
        exact this
    have := step (j' + row.length - j)
    rw [show j + (j' + row.length - j) = j' + row.length by omega, Nat.add_mod_right, Nat.mod_eq_of_lt hj', g3] at this
    refine ⟨j' + row.length - j, ?_⟩
    have := Option.some.inj this
    omega
end
end Lw
end

section
namespace Lw
open PySem DL
section
variable {m : Int} {ts : List (Int × Int)} {rows : List (List Int)} {Ls : List (List Nat)}
def tiesIn (m : Int) (ts : List (Int × Int)) (f : Int) : Nat := (ts.filter fun t => mkAt (marks m ts) t.1 == f).length
def loneIn (m : Int) (ts : List (Int × Int)) (rows : List (List Int)) (f : Int) : Nat := ((List.range rows.length).filter fun p : Nat => (rows.getD p []).isEmpty && (mkAt (marks m ts) (p : Int) == f)).length
end
end Lw
end

section
namespace Lw
open PySem DL
section
variable {m : Int} {ts : List (Int × Int)} {rows : List (List Int)} {Ls : List (List Nat)}
/-- the list of numbers of parts -/
structure NumOk (m : Int) (ts : List (Int × Int)) (ns : List Int) : Prop where
  len : ns.length = m.toNat
  num : ∀ (p i : Nat), p < m.toNat → (dsort (marks m ts))[i]? = some (mkAt (marks m ts) (p : Int)) → ns[p]? = some (i : Int)
theorem NumOk.at (h : NumOk m ts ns) {a : Int} (ha : 0 ≤ a ∧ a < m) : ∃ i : Nat, (dsort (marks m ts))[i]? = some (mkAt (marks m ts) a) ∧ i < (dsort (marks m ts)).length ∧ ixP (ns.map .int) a = some (.int (i : Int)) := by
  have hml := marks_len m ts
  have hm : mkAt (marks m ts) a ∈ dsort (marks m ts) := dsort_mem.mpr (mkAt_mem ha.1 (by omega))
  obtain ⟨i, hi⟩ := List.mem_iff_getElem?.mp hm
  refine ⟨i, hi, (List.getElem?_eq_some_iff.mp hi).1, ixP_pos ha.1 ?_⟩
  rw [List.getElem?_map, h.num a.toNat i (by omega) (by rw [Int.toNat_of_nonneg ha.1]; exact hi)]
  rfl
end
end Lw
end

section
namespace Lw
open PySem DL
section
variable {m : Int} {ts : List (Int × Int)} {rows : List (List Int)} {Ls : List (List Nat)}
def g1 (m : Int) (ts : List (Int × Int)) (q : Nat) (f : Int) : Int := 2 - (grp (marks m ts) f).length + (((ts.take q).filter fun t => mkAt (marks m ts) t.1 == f).length : Nat)
def g2 (m : Int) (ts : List (Int × Int)) (rows : List (List Int)) (j : Nat) (f : Int) : Int := 2 - (grp (marks m ts) f).length + tiesIn m ts f - (((List.range j).filter fun p : Nat => (rows.getD p []).isEmpty && (mkAt (marks m ts) (p : Int) == f)).length : Nat)
def g3 (m : Int) (ts : List (Int × Int)) (rows : List (List Int)) (Ls : List (List Nat)) (k : Nat) (f : Int) : Int := 2 - (grp (marks m ts) f).length + tiesIn m ts f - loneIn m ts rows f - (((Ls.take k).filter (faceP fun x => mkAt (marks m ts) (plc ts x) == f)).length : Nat)
end
end Lw
end

section
namespace Lw
open PySem DL
section
variable {m : Int} {ts : List (Int × Int)} {rows : List (List Int)} {Ls Ls' : List (List Nat)}
end
end Lw
end

section
namespace Lw
open PySem DL
/-- lists that part [0, N) into rounds of f, each begun with its least -/
structure FP (f : Nat → Nat) (N : Nat) (L : List (List Nat)) : Prop where
  fl : L.flatten.Perm (List.range N)
  st : ∀ l ∈ L, ∀ j x, l[j]? = some x → l[(j + 1) % l.length]? = some (f x)
  hd : ∀ l ∈ L, ∀ x xs, l = x :: xs → ∀ y ∈ xs, x < y
section
variable {f g : Nat → Nat} {N : Nat} {L L' : List (List Nat)}
theorem FP.mem (h : FP f N L) {l : List Nat} {x : Nat} (hl : l ∈ L) (hx : x ∈ l) : x < N := by
  have := h.fl.mem_iff.mp (List.mem_flatten.mpr ⟨l, hl, hx⟩)
  exact List.mem_range.mp this
theorem FP.ex (h : FP f N L) {x : Nat} (hx : x < N) : ∃ l ∈ L, x ∈ l := List.mem_flatten.mp (h.fl.mem_iff.mpr (List.mem_range.mpr hx))
theorem FP.congr (h : FP f N L) (e : ∀ x, x < N → f x = g x) : FP g N L := ⟨h.fl, fun l hl j x hx => by
  rw [← e x (h.mem hl (List.mem_of_getElem? hx))]
  exact h.st l hl j x hx, h.hd⟩
theorem FP.nd (h : FP f N L) : L.flatten.Nodup := h.fl.nodup_iff.mpr List.nodup_range
theorem flat_row_nd : ∀ {L : List (List Nat)}, L.flatten.Nodup → ∀ l ∈ L, l.Nodup
  | [], _, l, h => by cases h
  | a :: L, hn, l, h => by
    rw [List.flatten_cons] at hn
    obtain ⟨n1, n2, n3⟩ := List.nodup_append.mp hn
    rcases List.mem_cons.mp h with rfl | h
    · exact n1
    · exact flat_row_nd n2 l h
/-- what stands in a list is gone through from its head on -/
theorem FP.itr (h : FP f N L) {x : Nat} {xs : List Nat} (hl : (x :: xs) ∈ L) : ∀ j, (x :: xs)[j % (xs.length + 1)]? = some (Lw.itr f j x)
  | 0 => by simp; rfl
  | j + 1 => by
    have ih := h.itr hl j
    have := h.st _ hl _ _ ih
    rw [List.length_cons, Nat.mod_add_mod] at this
    exact this
theorem FP.one (h : FP f N L) (h' : FP f N L') {l : List Nat} (hl : l ∈ L) (hne : l ≠ []) : l ∈ L' := by
  obtain ⟨x, xs, rfl⟩ := List.exists_cons_of_ne_nil hne
  have hx := h.mem hl (List.mem_cons_self ..)
  obtain ⟨k, hk, hxk⟩ := h'.ex hx
  cases k with
  | nil => cases hxk
  | cons y ys =>
    have i1 := h.itr hl
    have i2 := h'.itr hk
    -- each goes through the other
    obtain ⟨j, hj⟩ := List.mem_iff_getElem?.mp hxk
    have hjl := (List.getElem?_eq_some_iff.mp hj).1
    have ej : Lw.itr f j y = x := by
      have := i2 j
      rw [Nat.mod_eq_of_lt (by simpa using hjl), hj] at this
      exact (Option.some.inj this).symm
    have per2 : Lw.itr f (ys.length + 1) y = y := by
      have := i2 (ys.length + 1)
      rw [Nat.mod_self] at this
      exact (Option.some.inj this).symm
    have ey : Lw.itr f (ys.length + 1 - j) x = y := by
      rw [← ej, ← itr_add, show ys.length + 1 - j + j = ys.length + 1 by simp at hjl; omega, per2]
    have hy : y ∈ x :: xs := by
      have := i1 (ys.length + 1 - j)
      rw [ey] at this
      exact List.mem_of_getElem? this
    have exy : x = y := by
      rcases List.mem_cons.mp hy with q | q
      · exact q.symm
      · have a := h.hd _ hl x xs rfl y q
        rcases List.mem_cons.mp hxk with q2 | q2
        · exact q2
        · have b := h'.hd _ hk y ys rfl x q2
          omega
    subst exy
    have nd1 := flat_row_nd h.nd _ hl
    have nd2 := flat_row_nd h'.nd _ hk
    have le : ∀ {a b : List Nat}, (x :: a).Nodup → (∀ j, (x :: a)[j % (a.length + 1)]? = some (Lw.itr f j x)) → (∀ j, (x :: b)[j % (b.length + 1)]? = some (Lw.itr f j x)) → a.length ≤ b.length := fun {a b} nd ia ib => by
      apply Classical.byContradiction
      intro hc
      have h1 := ia (b.length + 1)
      have h2 := ib (b.length + 1)
      rw [Nat.mod_self] at h2
      rw [Nat.mod_eq_of_lt (by omega), ← h2] at h1
      have : (0 : Nat) = b.length + 1 := (List.getElem?_inj (by simp) nd).mp (show (x :: a)[0]? = (x :: a)[b.length + 1]? by rw [h1]; rfl)
      omega
    have el : xs.length = ys.length := Nat.le_antisymm (le nd1 i1 i2) (le nd2 i2 i1)
    have : x :: xs = x :: ys := by
      apply List.ext_getElem?
      intro j
      by_cases hj : j < xs.length + 1
      · have a := i1 j
        have b := i2 j
        rw [Nat.mod_eq_of_lt hj] at a
        rw [Nat.mod_eq_of_lt (by omega)] at b
        rw [a, b]
      · rw [List.getElem?_eq_none (by simp; omega), List.getElem?_eq_none (by simp; omega)]
    rw [this]
    exact hk
theorem ne_nodup : ∀ {L : List (List Nat)}, L.flatten.Nodup → (L.filter fun l => !l.isEmpty).Nodup
  | [], _ => by simp
  | a :: L, hn => by
    rw [List.flatten_cons] at hn
    obtain ⟨n1, n2, n3⟩ := List.nodup_append.mp hn
    have ih := ne_nodup n2
    rw [List.filter_cons]
    split
    · rename_i hne
      refine List.nodup_cons.mpr ⟨fun h => ?_, ih⟩
      obtain ⟨h1, _⟩ := List.mem_filter.mp h
      cases a with
      | nil => simp at hne
      | cons x xs => exact absurd rfl (n3 x (by simp) x (List.mem_flatten.mpr ⟨_, h1, by simp⟩))
    · exact ih
def emp (L : List (List Nat)) : Nat := (L.filter fun l => l.isEmpty).length
theorem FP.uniq (h : FP f N L) (h' : FP f N L') (he : emp L = emp L') : L.Perm L' := by
  have p1 : (L.filter fun l => !l.isEmpty).Perm (L'.filter fun l => !l.isEmpty) := by
    refine (List.perm_ext_iff_of_nodup (ne_nodup h.nd) (ne_nodup h'.nd)).mpr fun l => ?_
    rw [List.mem_filter, List.mem_filter]
    constructor
    · rintro ⟨a, b⟩
      exact ⟨h.one h' a (by rintro rfl; simp at b), b⟩
    · rintro ⟨a, b⟩
      exact ⟨h'.one h a (by rintro rfl; simp at b), b⟩
  have p2 : (L.filter fun l => l.isEmpty) = (L'.filter fun l => l.isEmpty) := by
    have key : ∀ L : List (List Nat), (L.filter fun l => l.isEmpty) = List.replicate (emp L) [] := fun L => by
      refine List.eq_replicate_iff.mpr ⟨rfl, fun l hl => ?_⟩
      have := (List.mem_filter.mp hl).2
      simpa using this
    rw [key L, key L', he]
  have q : ∀ L : List (List Nat), ((L.filter fun l => l.isEmpty) ++ (L.filter fun l => !l.isEmpty)).Perm L := fun L => List.filter_append_perm _ _
  refine (q L).symm.trans (List.Perm.trans ?_ (q L'))
  rw [p2]
  exact List.Perm.append_left _ p1
end
end Lw
end

section
namespace Lw
open PySem DL
section
variable {f g : Nat → Nat} {n : Nat} {L L' : List (List Nat)}
end
section
variable {m : Int} {ts : List (Int × Int)} {rows : List (List Int)} {Ls : List (List Nat)}
end
end Lw
end

section
namespace Lw
open PySem DL
section
variable {m : Int} {ts : List (Int × Int)} {rows : List (List Int)} {Ls : List (List Nat)}
end
end Lw
end

section
namespace Lw
open PySem DL
section
variable {m : Int} {ts : List (Int × Int)} {rows : List (List Int)} {Ls : List (List Nat)}
end
end Lw
end

section
namespace Lw
open PySem DL
theorem TpD.up : ∀ {k : Nat} {d : D}, TpD k d → TpD (k + 1) d
  | _, .int _, _ => trivial
  | k + 1, .tuple ds, h => ⟨h.1, fun d hd => TpD.up (h.2 d hd)⟩
  | 0, .tuple _, h => h.elim
  | 0, .list _, h => h.elim
  | 0, .none, h => h.elim
  | 0, .bool _, h => h.elim
  | 0, .str _, h => h.elim
  | 0, .dict _, h => h.elim
  | _ + 1, .list _, h => h.elim
  | _ + 1, .none, h => h.elim
  | _ + 1, .bool _, h => h.elim
  | _ + 1, .str _, h => h.elim
  | _ + 1, .dict _, h => h.elim
end Lw
end

section
namespace Lw
open PySem DL
section
variable {f : Nat → Nat} {n : Nat} {L : List (List Nat)}
end
end Lw
end

section
namespace Lw
open PySem DL
/-- lists that part [0, N) into rounds of f, begun anywhere -/
structure FQ (f : Nat → Nat) (N : Nat) (L : List (List Nat)) : Prop where
  fl : L.flatten.Perm (List.range N)
  st : ∀ l ∈ L, ∀ j x, l[j]? = some x → l[(j + 1) % l.length]? = some (f x)
theorem FP.q {f : Nat → Nat} {N : Nat} {L : List (List Nat)} (h : FP f N L) : FQ f N L := ⟨h.fl, h.st⟩
/-- a face as a tuple or a list -/
def faceB (b : Bool) (l : List Nat) : D := if b then tupN l else .list ((intsN l).map .int)
/-- a table: its faces, each a tuple or a list -/
structure TabOk (T : D) (M : List (List Nat)) : Prop where
  ex : ∃ bs : List Bool, bs.length = M.length ∧ (T = .list ((bs.zip M).map fun p => faceB p.1 p.2) ∨ T = .tuple ((bs.zip M).map fun p => faceB p.1 p.2))
theorem TabOk.row {T : D} {M : List (List Nat)} (h : TabOk T M) : ∃ bs : List Bool, bs.length = M.length ∧ rowOf T = some ((bs.zip M).map fun p => faceB p.1 p.2) := by
  obtain ⟨bs, h1, h⟩ := h.ex
  exact ⟨bs, h1, by rcases h with rfl | rfl <;> rfl⟩
section
variable {f : Nat → Nat} {n : Nat} {M : List (List Nat)} {T : D}
end
end Lw
end

section
namespace Lw
open PySem DL
section
variable {f : Nat → Nat} {N B : Nat} {L : List (List Nat)}
theorem orb_head (s : Stp f (· < N) B) {x : Nat} (hx : x < N) : ∃ xs, orb f x = x :: xs := by
  have h0 := orb_get (f := f) (x := x) (n := 0) (by have := (s.per hx).1; omega)
  cases hc : orb f x with
  | nil => rw [hc] at h0; cases h0
  | cons y ys =>
    rw [hc] at h0
    cases h0
    exact ⟨ys, rfl⟩
/-- rounds from their least ones, behind empty lists -/
noncomputable def rowsR (f : Nat → Nat) (e N : Nat) : List (List Nat) := List.replicate e [] ++ (repsN f N).map (orb f)
theorem rowsR_cases (s : Stp f (· < N) B) {e : Nat} {l : List Nat} (h : l ∈ rowsR f e N) : l = [] ∨ ∃ x, x < N ∧ isLo f x ∧ l = orb f x := by
  unfold rowsR at h
  rcases List.mem_append.mp h with h | h
  · exact .inl (List.eq_of_mem_replicate h)
  · obtain ⟨x, hx, rfl⟩ := List.mem_map.mp h
    obtain ⟨h1, h2⟩ := reps_mem.mp hx
    exact .inr ⟨x, h1, h2, rfl⟩
theorem fp_reps (st : Stp f (· < N) B) (e : Nat) : FP f N (rowsR f e N) := by
  refine ⟨?_, fun l hl j x hx => ?_, fun l hl x xs e y hy => ?_⟩
  · refine (List.perm_ext_iff_of_nodup ?_ List.nodup_range).mpr fun z => ?_
    · rw [List.nodup_iff_pairwise_ne, List.pairwise_flatten]
      refine ⟨fun l hl => ?_, ?_⟩
      · rcases rowsR_cases st hl with rfl | ⟨x, hx, _, rfl⟩
        · exact .nil
        · exact List.nodup_iff_pairwise_ne.mp (orb_nodup st hx)
      · unfold rowsR
        rw [List.pairwise_append]
        refine ⟨?_, ?_, ?_⟩
        · refine List.pairwise_of_forall_mem_list fun a ha b _ x hx => ?_
          rw [List.eq_of_mem_replicate ha] at hx
          cases hx
        · rw [List.pairwise_map]
          have nd : (repsN f N).Pairwise (· ≠ ·) := by
            unfold repsN
            exact List.nodup_iff_pairwise_ne.mp (List.nodup_range.filter _)
          refine List.Pairwise.imp_of_mem (fun {a b} ha hb hab x hx y hy e => ?_) nd
          subst e
          obtain ⟨ha1, ha2⟩ := reps_mem.mp ha
          obtain ⟨hb1, hb2⟩ := reps_mem.mp hb
          exact hab (lo_uniq st hb1 (orb_disj st hb1 ha1 hy hx) hb2 ha2)
        · intro a ha b _ x hx
          rw [List.eq_of_mem_replicate ha] at hx
          cases hx
    · rw [List.mem_flatten, List.mem_range]
      constructor
      · rintro ⟨l, hl, he⟩
        rcases rowsR_cases st hl with rfl | ⟨x, hx, _, rfl⟩
        · cases he
        · exact orb_P st hx he
      · intro he
        obtain ⟨i, hi, hlo⟩ := lo_ex st he
        have he2 := st.itr he i
        refine ⟨orb f (itr f i z), ?_, orb_symm st he ((mem_orb st he).mpr ⟨i, rfl⟩)⟩
        unfold rowsR
        exact List.mem_append.mpr (.inr (List.mem_map.mpr ⟨_, reps_mem.mpr ⟨he2, hlo⟩, rfl⟩))
  · rcases rowsR_cases st hl with rfl | ⟨z, hz, hlo, rfl⟩
    · simp at hx
    · have hj := (List.getElem?_eq_some_iff.mp hx).1
      rw [orb_len] at hj ⊢
      rw [orb_get hj] at hx
      cases hx
      have hp := st.per hz
      rw [orb_get (Nat.mod_lt _ hp.1), ← st.mod hz]
      rfl
  · rcases rowsR_cases st hl with rfl | ⟨z, hz, hlo, rfl⟩
    · cases e
    · obtain ⟨zs, h0⟩ := orb_head st hz
      have nd := orb_nodup st hz
      rw [h0] at e nd
      cases e
      have h1 := hlo y (by rw [h0]; exact List.mem_cons_of_mem _ hy)
      have : x ≠ y := fun w => (List.nodup_cons.mp nd).1 (w ▸ hy)
      omega
/-- a list that parts is its head's round -/
theorem FP.orb (h : FP f N L) (st : Stp f (· < N) B) {x : Nat} {xs : List Nat} (hl : (x :: xs) ∈ L) : x :: xs = Lw.orb f x := by
  have h2 : FP f N (rowsR f 0 N) := fp_reps st 0
  have hm := h.one h2 hl (by simp)
  rcases rowsR_cases st hm with q | ⟨z, hz, _, q⟩
  · cases q
  · obtain ⟨zs, h3⟩ := orb_head st hz
    rw [h3] at q
    cases q
    rw [h3]
end
section
variable {f : Nat → Nat} {n B : Nat} {M : List (List Nat)} {T : D}
end
end Lw
end

section
namespace Lw
open PySem DL
section
variable {m : Int} {ts : List (Int × Int)}
end
end Lw
end

section
namespace Lw
open PySem DL
section
variable {ts : List (Int × Int)} {zs : List Int} {f : Nat}
inductive WayTo (ts : List (Int × Int)) (f : Nat) : Nat → List Nat → Prop
  | nil : WayTo ts f f []
  | snoc {p q e : Nat} {w : List Nat} : WayTo ts f p w → e < 2 * ts.length → plc ts e = (p : Int) → plc ts (ptn e) = (q : Int) → WayTo ts f q (w ++ [e])
/-- the crossings met on a way -/
def wCr (zs : List Int) (w : List Nat) : Int := (w.map fun e => zs.getD (e / 2) 0).sum
theorem wCr_snoc {w : List Nat} {e : Nat} : wCr zs (w ++ [e]) = wCr zs w + zs.getD (e / 2) 0 := by simp [wCr]
theorem WayTo.all {q : Nat} {w : List Nat} (h : WayTo ts f q w) : ∀ e ∈ w, e < 2 * ts.length := by
  induction h with
  | nil => simp
  | snoc _ he _ _ ih =>
    intro x hx
    rcases List.mem_append.mp hx with h | h
    · exact ih x h
    · rw [List.mem_singleton.mp h]; exact he
/-- given sides that are right at all ties give the parity of every way -/
theorem WayTo.side {g : Nat → Int} (hg : ∀ e p q : Nat, e < 2 * ts.length → plc ts e = (p : Int) → plc ts (ptn e) = (q : Int) → (g p + zs.getD (e / 2) 0) % 2 = g q % 2) {q : Nat} {w : List Nat} (h : WayTo ts f q w) : (g f + wCr zs w) % 2 = g q % 2 := by
  induction h with
  | nil => simp [wCr]
  | snoc _ he h1 h2 ih =>
    have := hg _ _ _ he h1 h2
    rw [wCr_snoc]
    omega
end
end Lw
end

section
namespace Lw
open PySem DL
section
variable {m : Int} {ts : List (Int × Int)} {zs : List Int} {f : Nat}
/-- a place with its side and its way -/
abbrev Pw := Nat × Int × List Nat
/-- what is known of the places found: k of them are gone through, of the next one's ends those in `done` -/
structure WL (m : Int) (ts : List (Int × Int)) (zs : List Int) (f : Nat) (L : List Pw) (k : Nat) (dn : List Nat) : Prop where
  nd : (L.map (·.1)).Nodup
  hd : L[0]? = some (f, 0, [])
  ok : ∀ t ∈ L, (t.1 : Int) < m ∧ t.2.1 = wCr zs t.2.2 % 2 ∧ WayTo ts f t.1 t.2.2
  kl : k ≤ L.length
  sh : ∀ t ∈ L, t.2.2.length < L.length
  cl : ∀ i t, i < k → L[i]? = some t → ∀ e q : Nat, e < 2 * ts.length → plc ts e = (t.1 : Int) → plc ts (ptn e) = (q : Int) → q ∈ L.map (·.1)
  cn : ∀ e ∈ dn, ∀ q : Nat, plc ts (ptn e) = (q : Int) → q ∈ L.map (·.1)
theorem WL.next {L : List Pw} {k : Nat} {dn : List Nat} (h : WL m ts zs f L k dn) (hk : k < L.length) (hdn : ∀ t, L[k]? = some t → ∀ e, e < 2 * ts.length → plc ts e = (t.1 : Int) → e ∈ dn) : WL m ts zs f L (k + 1) [] := by
  refine ⟨h.nd, h.hd, h.ok, by omega, h.sh, fun i t hi e1 e q he h1 h2 => ?_, by simp⟩
  by_cases hik : i < k
  · exact h.cl i t hik e1 e q he h1 h2
  · have : i = k := by omega
    subst this
    exact h.cn e (hdn t e1 e he h1) q h2
end
end Lw
end

section
namespace Lw
open PySem DL
section
variable {L : List Pw}
end
end Lw
end

section
namespace Lw
open PySem DL
section
variable {m : Int} {ts : List (Int × Int)} {zs : List Int} {f : Nat}
end
end Lw
end

section
namespace Lw
open PySem DL
section
variable {m : Int} {ts : List (Int × Int)} {zs : List Int} {f : Nat}
theorem mark_min (ht : TiesOk m ts) {Q : Nat → Nat → Prop} (rf : ∀ x, Q x x) (sy : ∀ x y, Q x y → Q y x) (tr : ∀ x y z, Q x y → Q y z → Q x z) (tie : ∀ k, k < ts.length → Q (plN ts (2 * k)) (plN ts (2 * k + 1))) {x y : Nat} (hx : x < m.toNat) (hy : y < m.toNat)
    (h : mkAt (marks m ts) (x : Int) = mkAt (marks m ts) (y : Int)) : Q x y := by
  have hg := hang ht
  have key : ∀ k, k ≤ ts.length → ∀ x y, x < m.toNat → y < m.toNat → hangR m ts k x y → Q x y := fun k => by
    induction k with
    | zero => exact fun _ x y hx hy h => ((hg.zero x y hx hy).mp h) ▸ rf x
    | succ k ih =>
      intro hk x y hx hy h
      have q0 := tie k (by omega)
      have b1 := (plN_cast ht (x := 2 * k) (by omega)).2
      have b2 := (plN_cast ht (x := 2 * k + 1) (by omega)).2
      rcases (hg.succ k (by omega) x y hx hy).mp h with h | ⟨h1, h2⟩ | ⟨h1, h2⟩
      · exact ih (by omega) x y hx hy h
      · exact tr _ _ _ (ih (by omega) _ _ hx b1 h1) (tr _ _ _ q0 (ih (by omega) _ _ b2 hy h2))
      · exact tr _ _ _ (ih (by omega) _ _ hx b2 h1) (tr _ _ _ (sy _ _ q0) (ih (by omega) _ _ b1 hy h2))
  refine key ts.length (Nat.le_refl _) x y hx hy ?_
  unfold hangR
  rw [List.take_length]
  exact h
theorem WayTo.mark (ht : TiesOk m ts) {q : Nat} {w : List Nat} (h : WayTo ts f q w) : mkAt (marks m ts) (q : Int) = mkAt (marks m ts) (f : Int) := by
  induction h with
  | nil => rfl
  | snoc _ he h1 h2 ih =>
    rename_i p q e w _
    have h := marks_tie ht (k := e / 2) (by omega)
    rw [← ih, ← h1, ← h2]
    unfold ptn
    by_cases hx2 : e % 2 = 0
    · rw [if_pos hx2]
      rw [show 2 * (e / 2) = e by omega] at h
      exact h.symm
    · rw [if_neg hx2]
      rw [show 2 * (e / 2) + 1 = e by omega, show 2 * (e / 2) = e - 1 by omega] at h
      exact h
theorem WL.all (ht : TiesOk m ts) {L : List Pw} (h : WL m ts zs f L L.length []) {q : Nat} (hq : (q : Int) < m) : q ∈ L.map (·.1) ↔ mkAt (marks m ts) (q : Int) = mkAt (marks m ts) (f : Int) := by
  have h0 := h.ok _ (List.mem_of_getElem? h.hd)
  have hf : f ∈ L.map (·.1) := List.mem_map_of_mem (f := fun t : Pw => t.1) (List.mem_of_getElem? h.hd)
  have hf2 : (f : Int) < m := h0.1
  have cl : ∀ e, e < 2 * ts.length → plN ts e ∈ L.map (·.1) → plN ts (ptn e) ∈ L.map (·.1) := fun e he hp => by
    obtain ⟨t, ht1, ht2⟩ := List.mem_map.mp hp
    obtain ⟨i, hi⟩ := List.mem_iff_getElem?.mp ht1
    have hpt : ptn e < 2 * ts.length := by unfold ptn; split <;> omega
    exact h.cl i t (List.getElem?_eq_some_iff.mp hi).1 hi e (plN ts (ptn e)) he (by rw [← (plN_cast ht he).1, ht2]) (plN_cast ht hpt).1.symm
  constructor
  · intro hm
    obtain ⟨t, ht1, rfl⟩ := List.mem_map.mp hm
    exact (h.ok t ht1).2.2.mark ht
  · intro he
    refine (mark_min ht (Q := fun x y => x ∈ L.map (fun t : Pw => t.1) ↔ y ∈ L.map (fun t : Pw => t.1)) (fun _ => Iff.rfl) (fun _ _ h => h.symm) (fun _ _ _ h1 h2 => h1.trans h2) (fun k hk => ?_) (by omega) (by omega) he).mpr hf
    constructor
    · intro h1
      have := cl (2 * k) (by omega) h1
      rwa [show ptn (2 * k) = 2 * k + 1 by unfold ptn; rw [if_pos (by omega)]] at this
    · intro h1
      have := cl (2 * k + 1) (by omega) h1
      rwa [show ptn (2 * k + 1) = 2 * k by unfold ptn; rw [if_neg (by omega)]; omega] at this
end
end Lw
end

section
namespace Lw
open PySem DL
section
variable {m : Int} {ts : List (Int × Int)} {zs : List Int} {f : Nat} {L : List Pw}
end
end Lw
end

section
namespace Lw
open PySem DL
section
variable {m : Int} {ts : List (Int × Int)} {zs : List Int} {f : Nat}
/-- ends that lead round, crossed an odd number of times -/
structure RingR (ts : List (Int × Int)) (zs ns : List Int) : Prop where
  ne : ns ≠ []
  bd : ∀ n ∈ ns, 0 ≤ n ∧ n < 2 * (ts.length : Int)
  rd : ∀ (k : Nat) (e e' : Int), ns[k]? = some e → ns[(k + ns.length - 1) % ns.length]? = some e' → plc ts e.toNat = plc ts (ptn e'.toNat)
  od : (ns.map fun e => zs.getD (e.toNat / 2) 0).sum % 2 = 1
/-- right sides -/
structure TwoR (m : Int) (ts : List (Int × Int)) (zs gs : List Int) : Prop where
  len : gs.length = m.toNat
  ok : ∀ g ∈ gs, g = 0 ∨ g = 1
  fst : ∀ f ∈ dsort (marks m ts), ∀ a l, grp (marks m ts) f = a :: l → gs.getD a.toNat 0 = 0
  tie : ∀ (k : Nat) (t : Int × Int), ts[k]? = some t → (gs.getD t.1.toNat 0 + zs.getD k 0 + gs.getD t.2.toNat 0) % 2 = 0
def tupZ (ns : List Int) : D := .tuple (ns.map .int)
def oneD (ns : List Int) : D := .tuple [.str (Str.ofString "one"), tupZ ns]
def twoD (gs : List Int) : D := .tuple [.str (Str.ofString "two"), tupZ gs]
theorem WayTo.back {q : Nat} {w : List Nat} (h : WayTo ts f q w) : ∀ {g : Nat} {u : List Nat}, WayTo ts g q u → WayTo ts g f (u ++ w.reverse.map ptn) := by
  induction h with
  | nil => intro g u hu; simpa using hu
  | snoc hw he h1 h2 ih =>
    rename_i p q e w
    intro g u hu
    have hpe : ptn e < 2 * ts.length := ptn_lt he
    have := ih (hu.snoc hpe h2 (by rw [ptn_ptn]; exact h1))
    simpa [List.append_assoc] using this
end
end Lw
end

section
namespace Lw
open PySem DL
section
variable {m : Int} {ts : List (Int × Int)} {zs : List Int} {f : Nat}
/-- the first j parts have their sides -/
structure Gv (m : Int) (ts : List (Int × Int)) (zs : List Int) (j : Nat) (gs : List Int) : Prop where
  len : gs.length = m.toNat
  ok : ∀ g ∈ gs, g = 0 ∨ g = 1
  fst : ∀ (i : Nat) (f : Int), i < j → (dsort (marks m ts))[i]? = some f → ∀ a l, grp (marks m ts) f = a :: l → gs.getD a.toNat 0 = 0
  tie : ∀ (k : Nat) (t : Int × Int), ts[k]? = some t → (∃ i, i < j ∧ (dsort (marks m ts))[i]? = some (mkAt (marks m ts) t.1)) → (gs.getD t.1.toNat 0 + zs.getD k 0 + gs.getD t.2.toNat 0) % 2 = 0
/-- what sides tells -/
def SidesR (m : Int) (ts : List (Int × Int)) (zs : List Int) (d : D) : Prop := (∃ ns, d = oneD ns ∧ ns.length ≤ 1000 ∧ RingR ts zs ns) ∨ ∃ gs, d = twoD gs ∧ TwoR m ts zs gs
theorem Gv.two (ht : TiesOk m ts) {gs : List Int} (h : Gv m ts zs (dsort (marks m ts)).length gs) : TwoR m ts zs gs := by
  refine ⟨h.len, h.ok, fun f hf a l e => ?_, fun k t hk => ?_⟩
  · obtain ⟨i, hi⟩ := List.mem_iff_getElem?.mp hf
    exact h.fst i f (List.getElem?_eq_some_iff.mp hi).1 hi a l e
  · have htm := ht t (List.mem_of_getElem? hk)
    have : mkAt (marks m ts) t.1 ∈ dsort (marks m ts) := dsort_mem.mpr (List.mem_of_getElem? (mkAt_ok htm.1.1 (by rw [marks_len]; omega)).2)
    obtain ⟨i, hi⟩ := List.mem_iff_getElem?.mp this
    exact h.tie k t hk ⟨i, (List.getElem?_eq_some_iff.mp hi).1, hi⟩
/-- one part more -/
theorem Gv.next (ht : TiesOk m ts) {gs g2 : List Int} {j a : Nat} {g : Int} {l : List Int} {L : List Pw} (h : Gv m ts zs j gs) (hj : (dsort (marks m ts))[j]? = some g) (hg : grp (marks m ts) g = (a : Int) :: l) (hma : mkAt (marks m ts) (a : Int) = g) (hw : WL m ts zs a L L.length []) (hl : g2.length = m.toNat) (ho : ∀ x ∈ g2, x = 0 ∨ x = 1)
    (h1 : ∀ t : Pw, t ∈ L → g2.getD t.1 0 = t.2.1) (h2 : ∀ q : Nat, (q : Int) ∉ grp (marks m ts) g → g2.getD q 0 = gs.getD q 0)
    (h3 : ∀ (k' : Nat) (t : Int × Int), ts[k']? = some t → t.1.toNat ∈ L.map (fun u : Pw => u.1) → (g2.getD t.1.toNat 0 + zs.getD k' 0 + g2.getD t.2.toNat 0) % 2 = 0) : Gv m ts zs (j + 1) g2 := by
  have nd : (dsort (marks m ts)).Nodup := (dsort_pw _).imp fun h => by omega
  have other : ∀ (i : Nat) (f : Int), i < j → (dsort (marks m ts))[i]? = some f → f ≠ g := fun i f hi e1 e2 => by
    subst e2
    have := (List.getElem?_inj (List.getElem?_eq_some_iff.mp e1).1 nd).mp (e1.trans hj.symm)
    omega
  refine ⟨hl, ho, fun i f hi hf b l' hb => ?_, fun k t hk ⟨i, hi, hf⟩ => ?_⟩
  · have hbm : b ∈ grp (marks m ts) f := by rw [hb]; exact List.mem_cons_self
    obtain ⟨b0, b1, b2⟩ := grp_mem.mp hbm
    by_cases hij : i < j
    · rw [h2 b.toNat fun hm => other i f hij hf (by rw [← b2]; have := (grp_mem.mp hm).2.2; rw [show ((b.toNat : Nat) : Int) = b by omega] at this; exact this)]
      exact h.fst i f hij hf b l' hb
    · have : i = j := by omega
      subst this
      rw [hj] at hf
      cases hf
      rw [hg] at hb
      cases hb
      have := h1 _ (List.mem_of_getElem? hw.hd)
      rw [Int.toNat_natCast]
      exact this
  · have htm := ht t (List.mem_of_getElem? hk)
    have hkl := (List.getElem?_eq_some_iff.mp hk).1
    have mt := marks_tie ht hkl
    rw [(plc_tie hk).1, (plc_tie hk).2] at mt
    by_cases hij : i < j
    · have q1 : ∀ x : Int, 0 ≤ x → mkAt (marks m ts) x = mkAt (marks m ts) t.1 → g2.getD x.toNat 0 = gs.getD x.toNat 0 := fun x hx e => h2 x.toNat fun hm => other i _ hij hf (by
        have := (grp_mem.mp hm).2.2
        rw [show ((x.toNat : Nat) : Int) = x by omega, e] at this
        exact this)
      rw [q1 t.1 htm.1.1 rfl, q1 t.2 htm.2.1 mt.symm]
      exact h.tie k t hk ⟨i, hij, hf⟩
    · have : i = j := by omega
      subst this
      rw [hj] at hf
      injection hf with hf
      refine h3 k t hk ((hw.all ht (by omega)).mpr ?_)
      rw [show ((t.1.toNat : Nat) : Int) = t.1 by omega, ← hf, hma]
end
end Lw
end

section
namespace Lw
open PySem DL
section
variable {m : Int} {ts : List (Int × Int)} {zs : List Int}
end
end Lw
end

section
namespace Lw
open PySem DL
section
variable {m : Int} {ts : List (Int × Int)} {zs : List Int}
end
end Lw
end

section
namespace Lw
open PySem DL
end Lw
end

section
namespace Lw
open PySem DL
section
variable {m : Int} {ts : List (Int × Int)} {zs : List Int}
end
end Lw
end

section
namespace Lw
open PySem DL
section
variable {m : Int} {ts : List (Int × Int)} {zs : List Int}
theorem oks_eq {f : Sem} {xs ys : List Rs} {o : EO RV} (h : Oks f xs fun v zs => v = o ∧ zs = ys) : f xs = some (o, ys) := by
  obtain ⟨_, _, e, rfl, rfl⟩ := h
  exact e
end
end Lw
end

section
namespace Lw
open PySem DL
section
variable {m : Int} {ts : List (Int × Int)} {zs : List Int}
/-- data that can be laid, so deep -/
def LayD (k : Nat) (d : D) : Prop := d.canLay0 = true ∧ d.depth ≤ k
theorem LayD.gEq {k : Nat} {d : D} (h : LayD k d) (hk : k ≤ 40) : gEq [.fz d, .fz d] = some (.val (.bool true)) := by
  have o : DL.okD d = true := by unfold DL.okD; rw [h.1, decide_eq_true (by have := h.2; omega)]; rfl
  show (if DL.okD d && DL.okD d then some (RV.val (.bool (PyData.eqv d d))) else none) = _
  rw [o, PySem.SeqAt.eqv_refl d h.1]
  rfl
theorem LayD.gNe {k : Nat} {d : D} (h : LayD k d) (hk : k ≤ 40) : gNe [.fz d, .fz d] = some (.val (.bool false)) := by
  have o : DL.okD d = true := by unfold DL.okD; rw [h.1, decide_eq_true (by have := h.2; omega)]; rfl
  show (if DL.okD d && DL.okD d then some (RV.val (.bool (!PyData.eqv d d))) else none) = _
  rw [o, PySem.SeqAt.eqv_refl d h.1]
  rfl
theorem LayD.list {k : Nat} {ds : List D} (h : ∀ d ∈ ds, LayD k d) : LayD (k + 1) (.list ds) := by
  refine ⟨by simp only [PyData.canLay0]; exact lay_all fun d hd => (h d hd).1, ?_⟩
  simp only [PyData.depth]
  have := dep_all (k := k) fun d hd => (h d hd).2
  omega
theorem LayD.tuple {k : Nat} {ds : List D} (h : ∀ d ∈ ds, LayD k d) : LayD (k + 1) (.tuple ds) := by
  refine ⟨by simp only [PyData.canLay0]; exact lay_all fun d hd => (h d hd).1, ?_⟩
  simp only [PyData.depth]
  have := dep_all (k := k) fun d hd => (h d hd).2
  omega
theorem LayD.int {k : Nat} {n : Int} : LayD k (.int n) := ⟨by simp [PyData.canLay0], by simp [PyData.depth]⟩
theorem LayD.str {k : Nat} {x : Str} (h : PyData.strOk x = true) : LayD k (.str x) := ⟨by simp [PyData.canLay0, h], by simp [PyData.depth]⟩
theorem LayD.tupZ {k : Nat} {ns : List Int} : LayD (k + 1) (tupZ ns) := LayD.tuple fun d hd => by
  obtain ⟨n, _, rfl⟩ := List.mem_map.mp hd
  exact LayD.int
theorem oneD_lay {ns : List Int} : LayD 2 (oneD ns) := LayD.tuple fun d hd => by
  rcases List.mem_cons.mp hd with rfl | hd
  · exact LayD.str (by decide +kernel)
  · rw [List.mem_singleton.mp hd]; exact LayD.tupZ
theorem twoD_lay {ns : List Int} : LayD 2 (twoD ns) := LayD.tuple fun d hd => by
  rcases List.mem_cons.mp hd with rfl | hd
  · exact LayD.str (by decide +kernel)
  · rw [List.mem_singleton.mp hd]; exact LayD.tupZ
theorem SidesR.lay {d : D} (h : SidesR m ts zs d) : LayD 2 d := by
  rcases h with ⟨_, rfl, _⟩ | ⟨_, rfl, _⟩
  · exact oneD_lay
  · exact twoD_lay
end
end Lw
end

section
namespace Lw
open PySem DL
end Lw
end

section
namespace Lw
open PySem DL
end Lw
end

section
namespace Lw
open PySem DL
section
variable {m : Int} {ts : List (Int × Int)}
theorem partsD_pos (hm : 1 ≤ m) : 1 ≤ (partsD m ts).length := by
  unfold partsD partsI
  rw [List.length_map, List.length_map]
  have hml := marks_len m ts
  have : (marks m ts)[0]? = some ((marks m ts)[0]'(by omega)) := List.getElem?_eq_getElem _
  exact List.length_pos_of_mem (dsort_mem.mpr (List.mem_of_getElem? this))
theorem is_one_part_ok (hm : 1 ≤ m ∧ m ≤ 60) (hl : ts.length ≤ 1000) (ht : TiesOk m ts) : Oks sem_is_one_part_3b38 [.fz (webD m ts)] fun v ys => v = .ok (.val (.bool (decide ((partsD m ts).length = 1)))) ∧ ys = [.fz (webD m ts)] := by
  obtain ⟨_, _, e1, rfl, rfl⟩ := parts_of_ok hm hl ht
  refine oks_def rfl ?_
  have e : (((partsD m ts).length : Int) = 1) ↔ (partsD m ts).length = 1 := by omega
  simp [-getElem?_pos, -List.getD_eq_getElem?_getD, -getElem?_neg, List.getElem?_cons_zero, List.getElem?_cons_succ, b_is_one_part_3b38, e1, e]
end
end Lw
end

section
namespace Lw
open PySem DL
def fct : Nat → Nat
  | 0 => 1
  | n + 1 => (n + 1) * fct n
/-- the n-th of all orders of a list of so many -/
def prm : Nat → List Int → Nat → List Int
  | 0, _, _ => []
  | k + 1, l, n => match l[n / fct k]? with
    | some x => x :: prm k (l.eraseIdx (n / fct k)) (n % fct k)
    | none => []
def rowAt (E : List Int) (n : Nat) : List Int := E.take 1 ++ prm (E.length - 1) (E.drop 1) n
/-- a row, each end that isn't in it behind it -/
def ext (E row : List Int) : List (List Int) := (E.filter fun e => !row.contains e).map fun e => row ++ [e]
end Lw
end

section
namespace Lw
open PySem DL
section
variable {m : Int} {ts : List (Int × Int)}
/-- how many rows a place's ends have; the places ahead together -/
def wR (ts : List (Int × Int)) (p : Nat) : Nat := fct ((endsI ts p).length - 1)
def ordA (ts : List (Int × Int)) : Nat → Nat → List (List Int)
  | 0, _ => []
  | p + 1, n => ordA ts p (n / wR ts p) ++ [rowAt (endsI ts p) (n % wR ts p)]
end
end Lw
end

section
namespace Lw
open PySem DL
set_option exponentiation.threshold 400
section
variable {m : Int} {ts : List (Int × Int)}
end
end Lw
end

section
namespace Lw
open PySem DL
section
variable {m : Int} {ts : List (Int × Int)}
/-- the holes of the order of a number -/
noncomputable def hN (m : Int) (ts : List (Int × Int)) (n : Nat) : Int := twiceN m ts (ordA ts m.toNat n) / 2
end
end Lw
end

section
namespace Lw
open PySem DL
section
variable {m : Int} {ts : List (Int × Int)}
end
end Lw
end

section
namespace Lw
open PySem DL
end Lw
end

section
namespace Lw
open PySem DL
section
variable {ts : List (Int × Int)}
end
end Lw
end

section
namespace Lw
open PySem DL
section
variable {m : Int} {ts : List (Int × Int)}
end
end Lw
end

section
namespace Lw
open PySem DL
def Ls (x : Sl) (L : List D) : Prop := x = .own false (.lst L) ∨ x = .frz false (.list L)
section
variable {m : Int} {ts : List (Int × Int)}
end
end Lw
end

section
namespace Lw
open PySem DL
section
variable {m : Int} {ts : List (Int × Int)} {rows : List (List Int)}
end
end Lw
end

section
namespace Lw
open PySem DL
end Lw
end

section
namespace Lw
open PySem DL
section
variable {m : Int} {ts : List (Int × Int)} {rows : List (List Int)}
end
end Lw
end

section
namespace Lw
open PySem DL
end Lw
end

section
namespace Lw
open PySem DL
end Lw
end

section
namespace Lw
open PySem DL
theorem ties_ins {m : Int} {ts : List (Int × Int)} {t : Int × Int} (i : Nat) (h : TiesOk m ts) (ht : (0 ≤ t.1 ∧ t.1 < m) ∧ 0 ≤ t.2 ∧ t.2 < m) : TiesOk m (ts.take i ++ t :: ts.drop i) := fun u hu => by
  rcases List.mem_append.mp hu with h1 | h1
  · exact h u (List.mem_of_mem_take h1)
  · rcases List.mem_cons.mp h1 with rfl | h1
    · exact ht
    · exact h u (List.mem_of_mem_drop h1)
theorem len_ins {α : Type} (l : List α) (x : α) (i : Nat) : (l.take i ++ x :: l.drop i).length = l.length + 1 := by
  rw [List.length_append, List.length_cons, List.length_take, List.length_drop]
  omega
end Lw
end

section
namespace Lw
open PySem DL
def HgB (ts : List (Int × Int)) (K : Int) : Prop := ∀ p : Int, 1 ≤ p → p < K → ∃ t ∈ ts, (t.1 = p ∧ 0 ≤ t.2 ∧ t.2 < p) ∨ (t.2 = p ∧ 0 ≤ t.1 ∧ t.1 < p)
theorem HgB.ins {ts : List (Int × Int)} {K : Int} (h : HgB ts K) (i : Nat) (t : Int × Int) : HgB (ts.take i ++ t :: ts.drop i) K := fun p h1 h2 => by
  obtain ⟨u, hu, hc⟩ := h p h1 h2
  refine ⟨u, ?_, hc⟩
  have : u ∈ ts.take i ++ ts.drop i := by rw [List.take_append_drop]; exact hu
  rcases List.mem_append.mp this with h3 | h3
  · exact List.mem_append.mpr (.inl h3)
  · exact List.mem_append.mpr (.inr (List.mem_cons_of_mem _ h3))
theorem HgB.more {ts : List (Int × Int)} {K : Int} (h : HgB ts K) {t : Int × Int} (ht : t ∈ ts) (hc : (t.1 = K ∧ 0 ≤ t.2 ∧ t.2 < K) ∨ (t.2 = K ∧ 0 ≤ t.1 ∧ t.1 < K)) : HgB ts (K + 1) := fun p h1 h2 => by
  by_cases e : p < K
  · exact h p h1 e
  · have : p = K := by omega
    subst this
    exact ⟨t, ht, hc⟩
theorem parts_one {m : Int} {ts : List (Int × Int)} (hm : 1 ≤ m) (ht : TiesOk m ts) (h : HgB ts m) : (partsD m ts).length = 1 := by
  have hml := marks_len m ts
  have all : ∀ p : Nat, (p : Int) < m → mkAt (marks m ts) (p : Int) = mkAt (marks m ts) 0 := fun p => by
    induction p using Nat.strongRecOn with
    | _ p ih =>
      intro hp
      by_cases h0 : p = 0
      · rw [h0]; rfl
      · obtain ⟨t, htm, hc⟩ := h p (by omega) hp
        obtain ⟨k, hk⟩ := List.mem_iff_getElem?.mp htm
        have mt := marks_tie ht (List.getElem?_eq_some_iff.mp hk).1
        rw [(plc_tie hk).1, (plc_tie hk).2] at mt
        rcases hc with ⟨e, b0, b1⟩ | ⟨e, b0, b1⟩
        · have := ih t.2.toNat (by omega) (by omega)
          rw [show ((t.2.toNat : Nat) : Int) = t.2 by omega] at this
          rw [← e, mt, this]
        · have := ih t.1.toNat (by omega) (by omega)
          rw [show ((t.1.toNat : Nat) : Int) = t.1 by omega] at this
          rw [← e, ← mt, this]
  have e : ∀ x ∈ dsort (marks m ts), x = mkAt (marks m ts) 0 := fun x hx => by
    obtain ⟨k, hk⟩ := List.mem_iff_getElem?.mp (dsort_mem.mp hx)
    have hkl := (List.getElem?_eq_some_iff.mp hk).1
    have := all k (by omega)
    rw [← this]
    unfold mkAt
    rw [Int.toNat_natCast, List.getD_eq_getElem?_getD, hk]
    rfl
  have hp := partsD_pos (m := m) (ts := ts) hm
  unfold partsD partsI at hp ⊢
  rw [List.length_map, List.length_map] at hp ⊢
  have nd := dsort_pw (marks m ts)
  match hd : dsort (marks m ts) with
  | [] => rw [hd] at hp; simp at hp
  | [x] => rfl
  | x :: y :: r =>
    rw [hd] at e nd
    have h1 := e x List.mem_cons_self
    have h2 := e y (List.mem_cons_of_mem _ List.mem_cons_self)
    have := (List.pairwise_cons.mp nd).1 y List.mem_cons_self
    omega
end Lw
end

section
namespace Lw
open PySem DL
section
def pick3 (s a b c : Int) : Int := if s = 0 then a else if s = 1 then b else c
theorem pick3_ix {s a b c : Int} (h : 0 ≤ s ∧ s < 3) : ixP [.int a, .int b, .int c] s = some (.int (pick3 s a b c)) := by
  have : s = 0 ∨ s = 1 ∨ s = 2 := by omega
  rcases this with rfl | rfl | rfl <;> rfl
theorem pick5_ix {s : Int} (h : 0 ≤ s ∧ s < 5) : ∃ j, ixP [.int 0, .int 1, .int 2, .int 0, .int 0] s = some (.int j) ∧ 0 ≤ j ∧ j < 3 := by
  have : s = 0 ∨ s = 1 ∨ s = 2 ∨ s = 3 ∨ s = 4 := by omega
  rcases this with rfl | rfl | rfl | rfl | rfl
  · exact ⟨0, rfl, by omega, by omega⟩
  · exact ⟨1, rfl, by omega, by omega⟩
  · exact ⟨2, rfl, by omega, by omega⟩
  · exact ⟨0, rfl, by omega, by omega⟩
  · exact ⟨0, rfl, by omega, by omega⟩
noncomputable def opBody : S := (sSeq (sPar 7 8 (mCall sem_Ldraw_de5b [(oS 0), (oS 4)]) (mCall sem_Ldraw_de5b [(oS 0), (oS 4)]))
    (sSeq (sIf (mTst (mOp gLt [(oE (mOp gAdd [(oS 6), (oE (mC (.int 1)))])), (oS 4)])) (sPar 7 8 (mOp gIx [(oE (mOp gLst [(oE (mCall sem_Ldraw_de5b [(oS 0), (oE (mOp gAdd [(oS 6), (oE (mC (.int 1)))]))])), (oE (mRd 6)), (oE (mC (.int 0)))])), (oE (mOp gIx [(oE (mOp gLst [(oE (mC (.int 0))), (oE (mC (.int 1))), (oE (mC (.int 2))), (oE (mC (.int 0))), (oE (mC (.int 0)))])), (oS 3)]))]) (mOp gAdd [(oS 6), (oE (mC (.int 1)))])) (sIf (mTst (mOp gEq [(oS 3), (oE (mC (.int 1)))])) (sPar 7 8 (mOp gSub [(oS 4), (oE (mC (.int 1)))]) (mC (.int 0))) sNx))
    (sSeq (sIf (mTst (mOp gEq [(oE (mCall sem_Ldraw_de5b [(oS 0), (oE (mC (.int 2)))])), (oE (mC (.int 1)))])) (sPar 7 8 (mRd 8) (mRd 7)) sNx)
    (sDrop (mMut gInsert 5 [(oE (mCall sem_Ldraw_de5b [(oS 0), (oE (mOp gAdd [(oE (mOp gLen [(oS 5)])), (oE (mC (.int 1)))]))])), (oE (mOp gTup [(oE (mRd 7)), (oE (mRd 8))]))])))))
def OpI (n : Nat) (lim ct way m : Int) (k : Nat) (r : Ro) : Prop := ∃ p ts x6 x7 x8, r = [.own true (.lst p), .frz false (.int lim), .frz false (.int ct), .frz false (.int way), .frz false (.int m), .own false (.lst (ts.map tieD)), x6, x7, x8]
  ∧ Pen (n + 6 * k) p ∧ ts.length = k ∧ TiesOk m ts ∧ (∀ K : Int, K ≤ 1 + k → K ≤ m → HgB ts K) ∧ Fr x6 ∧ Fr x7 ∧ Fr x8
set_option maxHeartbeats 8000000 in
theorem op_body {n : Nat} {lim ct way m : Int} {Q : SO → Ro → Prop} (hn : n ≤ 90000) (hm : 1 ≤ m ∧ m ≤ 1000) (hw : 0 ≤ way ∧ way < 5) {k : Nat} {r : Ro} (hk : k ≤ 1000) (h : OpI n lim ct way m k r) :
    W (setN 6 (.int k)) r (nxP opBody (loopP (OpI n lim ct way m (k + 1)) Q)) := by
  obtain ⟨p, ts, x6, x7, x8, rfl, hp, hl, ht, hg, h6, h7, h8⟩ := h
  have lb : (lineD : Nat) = 16777216 := rfl
  obtain ⟨_, _, e1, a, p1, rfl, rfl, a0, a1, hp1⟩ := draw_ok hp (by omega) (m := m) (by omega)
  obtain ⟨_, _, e2, b, p2, rfl, rfl, b0, b1, hp2⟩ := draw_ok hp1 (by omega) (m := m) (by omega)
  obtain ⟨_, _, e3, c, p3, rfl, rfl, c0, c1, hp3⟩ := draw_ok hp2 (by omega) (m := (k : Int) + 1) (by omega)
  obtain ⟨_, _, e4, s, p4, rfl, rfl, s0, s1, hp4⟩ := draw_ok hp3 (by omega) (m := 2) (by omega)
  obtain ⟨_, _, e5, i, p5, rfl, rfl, i0, i1, hp5⟩ := draw_ok hp4 (by omega) (m := (ts.length : Int) + 1) (by omega)
  obtain ⟨_, _, f4, s', q4, rfl, rfl, s0', s1', hq4⟩ := draw_ok hp2 (by omega) (m := 2) (by omega)
  obtain ⟨_, _, f5, i', q5, rfl, rfl, i0', i1', hq5⟩ := draw_ok hq4 (by omega) (m := (ts.length : Int) + 1) (by omega)
  obtain ⟨j, hj, j0, j1⟩ := pick5_ix hw
  have px : ∀ a b c : Int, ixP [.int a, .int b, .int c] j = some (.int (pick3 j a b c)) := fun a b c => pick3_ix ⟨j0, j1⟩
  have l3 : ∀ a b c : D, gLst [.fz a, .fz b, .fz c] = some (.new (.lst [a, b, c])) := fun _ _ _ => rfl
  have l5 : ∀ a b c d e : D, gLst [.fz a, .fz b, .fz c, .fz d, .fz e] = some (.new (.lst [a, b, c, d, e])) := fun _ _ _ _ _ => rfl
  have hk2 : ts.length < lineD := by omega
  have hi2 : i < 9223372036854775808 := by omega
  have hi3 : i' < 9223372036854775808 := by omega
  obtain ⟨z, hz⟩ : ∃ z, z = pick3 j c (k : Int) 0 := ⟨_, rfl⟩
  have zb : 0 ≤ z ∧ z ≤ k := by rw [hz]; unfold pick3; split; omega; split <;> omega
  have hz' := hz.symm
  have fin : ∀ (a b i : Int) (P : List D), 0 ≤ a → a < m → 0 ≤ b → b < m → ((k : Int) + 1 < m → (a = (k : Int) + 1 ∧ b ≤ k) ∨ (b = (k : Int) + 1 ∧ a ≤ k)) → Pen (n + 6 * (k + 1)) P → OpI n lim ct way m (k + 1) [.own true (.lst P), .frz false (.int lim), .frz false (.int ct), .frz false (.int way), .frz false (.int m), .own false (.lst ((ts.map tieD).take i.toNat ++ PyData.tuple [.int a, .int b] :: (ts.map tieD).drop i.toNat)), .frz false (.int k), .frz false (.int a), .frz false (.int b)] := fun a b i P h1 h2 h3 h4 hc h5 =>
    ⟨P, ts.take i.toNat ++ (a, b) :: ts.drop i.toNat, _, _, _, by rw [List.map_append, List.map_cons, List.map_take, List.map_drop]; rfl, h5, by rw [len_ins]; omega, ties_ins _ ht ⟨⟨h1, h2⟩, h3, h4⟩, fun K hK hKm => by
      by_cases e : K ≤ 1 + k
      · exact (hg K e hKm).ins _ _
      · have eK : K = (1 + (k : Int)) + 1 := by omega
        rw [eK]
        have := hc (by omega)
        exact ((hg (1 + k) (by omega) (by omega)).ins i.toNat (a, b)).more (List.mem_append.mpr (.inr List.mem_cons_self)) (by simp only; omega), .frz, .frz, .frz⟩
  by_cases hkm : (k : Int) + 1 < m
  · by_cases hs : s = 1
    · simp [-getElem?_pos, -List.getD_eq_getElem?_getD, -getElem?_neg, List.getElem?_cons_zero, List.getElem?_cons_succ, opBody, h6.pin, h7.pin, h8.pin, h6.al, h7.al, h8.al, e1, e2, e3, e4, e5, hkm, l3, l5, hj, px, hz', hs, hk2, i0, hi2]
      exact fin _ _ i p5 (by omega) (by omega) (by omega) (by omega) (fun _ => .inl ⟨by omega, by omega⟩) (pen_mono (by omega) hp5)
    · simp [-getElem?_pos, -List.getD_eq_getElem?_getD, -getElem?_neg, List.getElem?_cons_zero, List.getElem?_cons_succ, opBody, h6.pin, h7.pin, h8.pin, h6.al, h7.al, h8.al, e1, e2, e3, e4, e5, hkm, l3, l5, hj, px, hz', hs, hk2, i0, hi2]
      exact fin _ _ i p5 (by omega) (by omega) (by omega) (by omega) (fun _ => .inr ⟨by omega, by omega⟩) (pen_mono (by omega) hp5)
  · by_cases hw1 : way = 1
    · by_cases hs : s' = 1
      · simp [-getElem?_pos, -List.getD_eq_getElem?_getD, -getElem?_neg, List.getElem?_cons_zero, List.getElem?_cons_succ, opBody, h6.pin, h7.pin, h8.pin, h6.al, h7.al, h8.al, e1, e2, f4, f5, hkm, hw1, hs, hk2, i0', hi3]
        subst hw1
        exact fin _ _ i' q5 (by omega) (by omega) (by omega) (by omega) (fun h => absurd h hkm) (pen_mono (by omega) hq5)
      · simp [-getElem?_pos, -List.getD_eq_getElem?_getD, -getElem?_neg, List.getElem?_cons_zero, List.getElem?_cons_succ, opBody, h6.pin, h7.pin, h8.pin, h6.al, h7.al, h8.al, e1, e2, f4, f5, hkm, hw1, hs, hk2, i0', hi3]
        subst hw1
        exact fin _ _ i' q5 (by omega) (by omega) (by omega) (by omega) (fun h => absurd h hkm) (pen_mono (by omega) hq5)
    · by_cases hs : s' = 1
      · simp [-getElem?_pos, -List.getD_eq_getElem?_getD, -getElem?_neg, List.getElem?_cons_zero, List.getElem?_cons_succ, opBody, h6.pin, h7.pin, h8.pin, h6.al, h7.al, h8.al, e1, e2, f4, f5, hkm, hw1, hs, hk2, i0', hi3]
        exact fin _ _ i' q5 (by omega) (by omega) (by omega) (by omega) (fun h => absurd h hkm) (pen_mono (by omega) hq5)
      · simp [-getElem?_pos, -List.getD_eq_getElem?_getD, -getElem?_neg, List.getElem?_cons_zero, List.getElem?_cons_succ, opBody, h6.pin, h7.pin, h8.pin, h6.al, h7.al, h8.al, e1, e2, f4, f5, hkm, hw1, hs, hk2, i0', hi3]
        exact fin _ _ i' q5 (by omega) (by omega) (by omega) (by omega) (fun h => absurd h hkm) (pen_mono (by omega) hq5)
end
end Lw
end

section
namespace Lw
open PySem DL
end Lw
end

section
namespace Lw
open PySem DL
end Lw
end

section
namespace Lw
open PySem DL
end Lw
end

section
namespace Lw
open PySem DL
structure FF (m : Int) (ts : List (Int × Int)) (j a : Nat) (row : List Nat) (fs : List (Option Int)) (k : Nat) : Prop where
  len : fs.length = m.toNat
  nd : row.Nodup
  lt : ∀ p ∈ row, p < m.toNat
  inn : ∀ p, p ∈ row → ∃ n, fs.getD p none = some n ∧ 0 ≤ n ∧ n ≤ row.length
  out : ∀ p, p ∉ row → fs.getD p none = none
  st : a ∈ row
  cl : ∀ i p, i < k → row[i]? = some p → ∀ o t, o ≠ j → ts[o]? = some t → (t.1 = (p : Int) → t.2.toNat ∈ row) ∧ (t.2 = (p : Int) → t.1.toNat ∈ row)
def natL (l : List Nat) : List D := l.map fun p : Nat => .int (p : Int)
end Lw
end

section
namespace Lw
open PySem DL
structure FL (m : Int) (ts : List (Int × Int)) (j a : Nat) (row : List Nat) (fs : List (Option Int)) (k : Nat) : Prop extends FF m ts j a row fs k where
  za : fs.getD a none = some 0
  mo : ∀ (i i' p p' : Nat) (n n' : Int), i ≤ i' → row[i]? = some p → row[i']? = some p' → fs.getD p none = some n → fs.getD p' none = some n' → n ≤ n'
  cap : ∀ (p : Nat) (n : Int) (q : Nat) (n' : Int), row[k]? = some q → fs.getD q none = some n' → p ∈ row → fs.getD p none = some n → n ≤ n' + 1
  lv : ∀ (i p : Nat) (n : Int), i < k → row[i]? = some p → fs.getD p none = some n → ∀ (o : Nat) (t : Int × Int), o ≠ j → ts[o]? = some t → (t.1 = (p : Int) → ∀ z, fs.getD t.2.toNat none = some z → z ≤ n + 1) ∧ (t.2 = (p : Int) → ∀ z, fs.getD t.1.toNat none = some z → z ≤ n + 1)
theorem FL.next {m : Int} {ts : List (Int × Int)} {j a k p : Nat} {row : List Nat} {fs : List (Option Int)} (h : FL m ts j a row fs k) (hp : row[k]? = some p) (hF : FF m ts j a row fs (k + 1)) : FL m ts j a row fs (k + 1) := by
  refine { toFF := hF, za := h.za, mo := h.mo, cap := ?_, lv := ?_ }
  · intro x c q c' hq hc' hx hc
    obtain ⟨n, hn, _, _⟩ := h.inn p (List.mem_of_getElem? hp)
    have h1 := h.cap x c p n hp hn hx hc
    have h2 := h.mo k (k + 1) p q n c' (by omega) hp hq hn hc'
    omega
  · intro i x c hi hx hc o t ho ht
    by_cases e : i < k
    · exact h.lv i x c e hx hc o t ho ht
    · have : i = k := by omega
      subst this
      rw [hp] at hx
      cases hx
      have key : ∀ z (v : Nat), fs.getD v none = some z → z ≤ c + 1 := fun z v hz => by
        by_cases hv : v ∈ row
        · exact h.cap v z p c hp hc hv hz
        · rw [h.out v hv] at hz
          cases hz
      exact ⟨fun _ z hz => key z _ hz, fun _ z hz => key z _ hz⟩
end Lw
end

section
namespace Lw
open PySem DL
section
variable {m : Int} {ts : List (Int × Int)}
/-- what stands in a list that far_from tells -/
def hgt (m : Int) (fs : List (Option Int)) : List Int := fs.map fun o => o.getD m
end
end Lw
end

section
namespace Lw
open PySem DL
section
variable {m : Int} {ts : List (Int × Int)}
end
end Lw
end

section
namespace Lw
open PySem DL
structure Tx (k w : Nat) (d : D) : Prop where
  dep : d.depth ≤ k
  sho : PyData.showable d = true
  lea : PyData.leavesShort 60 d = true
  bul : PyData.bulk d ≤ w
theorem Tx.le {k k' w w' : Nat} {d : D} (h : Tx k w d) (hk : k ≤ k') (hw : w ≤ w') : Tx k' w' d := ⟨Nat.le_trans h.dep hk, h.sho, h.lea, Nat.le_trans h.bul hw⟩
theorem Tx.len {k w : Nat} {d : D} (h : Tx k w d) (hw : w ≤ 200000) : (PyData.shown d).length ≤ lineD := by
  have lb : (lineD : Nat) = 16777216 := rfl
  have := PyData.shown_le_bulk 60 (by omega) d h.lea
  have := h.bul
  omega
theorem cut_mem {α : Type} {xs : List α} {lo hi : Option Int} {x : α} (h : x ∈ cutD xs lo hi) : x ∈ xs := List.mem_of_mem_drop (List.mem_of_mem_take h)
end Lw
end

section
namespace Lw
open PySem DL
section
variable {m : Int} {ts : List (Int × Int)}
theorem lay_ints {ns : List Int} : ∀ x ∈ ns.map PyData.int, x.canLay0 = true := fun x hx => by
  obtain ⟨n, hn, rfl⟩ := List.mem_map.mp hx
  rfl
/-- rows of small numbers, a thing among them -/
def Ints (xs : List D) : Prop := ∀ x ∈ xs, ∃ n : Int, x = .int n ∧ n.natAbs < 10 ^ 40
theorem Ints.cut {A : List D} (h : Ints A) {lo hi : Option Int} : Ints (cutD A lo hi) := fun x hx => h x (cut_mem hx)
end
end Lw
end

section
namespace Lw
open PySem DL
section
variable {m : Int} {ts : List (Int × Int)} {zs : List Int}
end
end Lw
end

section
namespace Lw
open PySem DL
section
variable {m : Int} {ts : List (Int × Int)}
end
end Lw
end

section
namespace Lw
open PySem DL
section
variable {m : Int} {ts : List (Int × Int)}
end
end Lw
end

section
namespace Lw
open PySem DL
theorem many_le {n M : Nat} (g : Nat → Nat) (h1 : ∀ c, c < n → g c < M) (h2 : ∀ c c', c < n → c' < n → g c = g c' → c = c') : n ≤ M := by
  have h := nodup_len M ((List.range n).map g) (by
    rw [List.nodup_iff_pairwise_ne, List.pairwise_map]
    refine (List.nodup_iff_pairwise_ne.mp List.nodup_range).imp_of_mem ?_
    intro a b ha hb hab e
    exact hab (h2 a b (List.mem_range.mp ha) (List.mem_range.mp hb) e)) fun x hx => by
      obtain ⟨c, hc, rfl⟩ := List.mem_map.mp hx
      exact h1 c (List.mem_range.mp hc)
  rwa [List.length_map, List.length_range] at h
section
variable {m : Int} {ts : List (Int × Int)} {rows : List (List Int)}
end
end Lw
end

section
namespace Lw
open PySem DL
section
variable {m : Int} {ts : List (Int × Int)}
end
end Lw
end

section
namespace Lw
open PySem DL
section
variable {m : Int} {ts : List (Int × Int)} {rows : List (List Int)}
theorem marks_all (ht : TiesOk m ts) (h1 : (partsD m ts).length = 1) : ∀ a b : Nat, a < m.toNat → b < m.toNat → mkAt (marks m ts) (a : Int) = mkAt (marks m ts) (b : Int) := fun a b ha hb => by
  have hml := marks_len m ts
  have mem : ∀ a : Nat, a < m.toNat → mkAt (marks m ts) (a : Int) ∈ dsort (marks m ts) := fun a ha => dsort_mem.mpr (List.mem_of_getElem? (mkAt_ok (a := (a : Int)) (by omega) (by omega)).2)
  have hl1 : (dsort (marks m ts)).length = 1 := by
    unfold partsD partsI at h1
    rwa [List.length_map, List.length_map] at h1
  match hd : dsort (marks m ts), hl1 with
  | [w], _ =>
    have a1 := mem _ ha
    have a2 := mem _ hb
    rw [hd] at a1 a2
    rw [List.mem_singleton.mp a1, List.mem_singleton.mp a2]
end
end Lw
end

section
namespace Lw
open PySem DL
section
variable {m : Int} {ts : List (Int × Int)} {rows : List (List Int)}
theorem conn_all (ho : OrdN m ts (2 * ts.length) rows) (ht : TiesOk m ts) (h1 : (partsD m ts).length = 1) {O : Nat → Prop} (lt : ∀ y, O y → y < 2 * ts.length) (cp : ∀ y, O y → O (ptn y)) (cn : ∀ y, O y → O (nxF ts rows y)) {x : Nat} (hO : O x) : ∀ z, z < 2 * ts.length → O z := by
  have sn := nx_stp ho ht
  have hx := lt x hO
  have plc_in : ∀ y z, O y → z < 2 * ts.length → plc ts y = plc ts z → O z := fun y z hy hz e => by
    obtain ⟨n, hn⟩ := (nx_same ho ht (lt y hy) hz).mpr e
    rw [← hn]
    clear hn
    induction n with
    | zero => exact hy
    | succ n ih =>
      have : itr (nxF ts rows) (n + 1) y = nxF ts rows (itr (nxF ts rows) n y) := by rw [show n + 1 = 1 + n by omega, itr_add]; rfl
      rw [this]
      exact cn _ ih
  intro z hz
  have hS := mark_min ht (Q := fun p q => ((∃ y, O y ∧ plN ts y = p) ↔ ∃ y, O y ∧ plN ts y = q)) (fun _ => .rfl) (fun _ _ h => h.symm) (fun _ _ _ h1 h2 => h1.trans h2) (fun k hk => ?_) (x := plN ts x) (y := plN ts z) (plN_cast ht hx).2 (plN_cast ht hz).2 (marks_all ht h1 _ _ (plN_cast ht hx).2 (plN_cast ht hz).2)
  · obtain ⟨y, hy, hyp⟩ := hS.mp ⟨x, hO, rfl⟩
    refine plc_in y z hy hz ?_
    have c1 := (plN_cast ht (lt y hy)).1
    have c2 := (plN_cast ht hz).1
    rw [← c1, ← c2, hyp]
  · have conv : ∀ a, a < 2 * ts.length → ((∃ y, O y ∧ plN ts y = plN ts a) ↔ O a) := fun a ha => ⟨fun ⟨y, hy, hyp⟩ => plc_in y a hy ha (by
      have c1 := (plN_cast ht (lt y hy)).1
      have c2 := (plN_cast ht ha).1
      rw [← c1, ← c2, hyp]), fun h => ⟨a, h, rfl⟩⟩
    rw [conv _ (by omega), conv _ (by omega)]
    have e1 : ptn (2 * k) = 2 * k + 1 := by unfold ptn; split <;> omega
    have e2 : ptn (2 * k + 1) = 2 * k := by unfold ptn; split <;> omega
    exact ⟨fun h => by rw [← e1]; exact cp _ h, fun h => by rw [← e2]; exact cp _ h⟩
/-- one more at the end, if it is new -/
def add1N (L : List Nat) (e : Nat) : List Nat := if e ∈ L then L else L ++ [e]
def nstep (ts : List (Int × Int)) (rows : List (List Int)) (L : List Nat) (k : Nat) : List Nat := match L[k]? with
  | some e => add1N (add1N L (ptn e)) (nxF ts rows e)
  | none => L
def nlist (ts : List (Int × Int)) (rows : List (List Int)) (x : Nat) : Nat → List Nat
  | 0 => [x]
  | k + 1 => nstep ts rows (nlist ts rows x k) k
theorem add1N_mem {L : List Nat} {e z : Nat} : z ∈ add1N L e ↔ z ∈ L ∨ z = e := by
  unfold add1N
  by_cases h : e ∈ L
  · rw [if_pos h]
    exact ⟨.inl, fun h' => by rcases h' with h' | rfl; exact h'; exact h⟩
  · rw [if_neg h, List.mem_append, List.mem_singleton]
theorem add1N_pre {L : List Nat} {e i x : Nat} (h : L[i]? = some x) : (add1N L e)[i]? = some x := by
  unfold add1N
  have := (List.getElem?_eq_some_iff.mp h).1
  split
  · exact h
  · rw [List.getElem?_append_left this]; exact h
theorem add1N_nd {L : List Nat} {e : Nat} (h : L.Nodup) : (add1N L e).Nodup := by
  unfold add1N
  split
  · exact h
  · rename_i hn
    rw [List.nodup_append]
    exact ⟨h, by simp, fun x hx z hz e' => hn (by rw [List.mem_singleton.mp hz] at e'; rw [← e']; exact hx)⟩
structure NL (ts : List (Int × Int)) (rows : List (List Int)) (x : Nat) (L : List Nat) (k : Nat) : Prop where
  nd : L.Nodup
  lt : ∀ z ∈ L, z < 2 * ts.length
  st : x ∈ L
  cl : ∀ i e, i < k → L[i]? = some e → ptn e ∈ L ∧ nxF ts rows e ∈ L
theorem nl_ok (ho : OrdN m ts (2 * ts.length) rows) (ht : TiesOk m ts) {x : Nat} (hx : x < 2 * ts.length) : ∀ k, NL ts rows x (nlist ts rows x k) k
  | 0 => ⟨by simp [nlist], fun z hz => by rw [List.mem_singleton.mp hz]; exact hx, List.mem_singleton.mpr rfl, fun i e hi => by omega⟩
  | k + 1 => by
    have h := nl_ok ho ht hx k
    show NL ts rows x (nstep ts rows (nlist ts rows x k) k) (k + 1)
    unfold nstep
    cases hk : (nlist ts rows x k)[k]? with
    | none =>
      refine ⟨h.nd, h.lt, h.st, fun i e hi he => ?_⟩
      by_cases hik : i < k
      · exact h.cl i e hik he
      · have : i = k := by omega
        subst this
        rw [hk] at he
        cases he
    | some e0 =>
      have he0 := h.lt e0 (List.mem_of_getElem? hk)
      have hnx : nxF ts rows e0 < 2 * ts.length := (nx_stp ho ht).cl e0 he0
      refine ⟨add1N_nd (add1N_nd h.nd), fun z hz => ?_, add1N_mem.mpr (.inl (add1N_mem.mpr (.inl h.st))), fun i e hi he => ?_⟩
      · rcases add1N_mem.mp hz with hz | rfl
        · rcases add1N_mem.mp hz with hz | rfl
          · exact h.lt z hz
          · exact ptn_lt he0
        · exact hnx
      · have up : ∀ z, z ∈ nlist ts rows x k → z ∈ add1N (add1N (nlist ts rows x k) (ptn e0)) (nxF ts rows e0) := fun z hz => add1N_mem.mpr (.inl (add1N_mem.mpr (.inl hz)))
        have hlen : i < (nlist ts rows x k).length := by
          by_cases hik : i < k
          · have := (List.getElem?_eq_some_iff.mp hk).1; omega
          · have := (List.getElem?_eq_some_iff.mp hk).1; omega
        have hpre := add1N_pre (e := nxF ts rows e0) (add1N_pre (e := ptn e0) (List.getElem?_eq_getElem hlen))
        rw [hpre] at he
        have he' : (nlist ts rows x k)[i]? = some e := by rw [List.getElem?_eq_getElem hlen]; exact he
        by_cases hik : i < k
        · have := h.cl i e hik he'
          exact ⟨up _ this.1, up _ this.2⟩
        · have : i = k := by omega
          subst this
          rw [hk] at he'
          cases he'
          exact ⟨add1N_mem.mpr (.inl (add1N_mem.mpr (.inr rfl))), add1N_mem.mpr (.inr rfl)⟩
theorem nl_full (ho : OrdN m ts (2 * ts.length) rows) (ht : TiesOk m ts) (h1 : (partsD m ts).length = 1) {x : Nat} (hx : x < 2 * ts.length) {k : Nat} (hk : (nlist ts rows x k).length ≤ k) : (nlist ts rows x k).length = 2 * ts.length ∧ ∀ z, z < 2 * ts.length → z ∈ nlist ts rows x k := by
  have h := nl_ok ho ht hx k
  have all := conn_all ho ht h1 (O := fun z => z ∈ nlist ts rows x k) (fun y hy => h.lt y hy) (fun y hy => by
    obtain ⟨i, hi⟩ := List.mem_iff_getElem?.mp hy
    exact (h.cl i y (by have := (List.getElem?_eq_some_iff.mp hi).1; omega) hi).1) (fun y hy => by
    obtain ⟨i, hi⟩ := List.mem_iff_getElem?.mp hy
    exact (h.cl i y (by have := (List.getElem?_eq_some_iff.mp hi).1; omega) hi).2) (x := x) h.st
  refine ⟨?_, all⟩
  have a := nodup_len _ _ h.nd h.lt
  have ex : ∀ z, z < 2 * ts.length → ∃ i, (nlist ts rows x k)[i]? = some z := fun z hz => List.mem_iff_getElem?.mp (all z hz)
  have b := many_le (n := 2 * ts.length) (M := (nlist ts rows x k).length) (fun z => if h : z < 2 * ts.length then (ex z h).choose else 0) (fun z hz => by
    simp only [dif_pos hz]
    exact (List.getElem?_eq_some_iff.mp (ex z hz).choose_spec).1) (fun z z' hz hz' e => by
    simp only [dif_pos hz, dif_pos hz'] at e
    have c1 := (ex z hz).choose_spec
    have c2 := (ex z' hz').choose_spec
    rw [e, c2] at c1
    exact (Option.some.inj c1).symm)
  omega
theorem nl_long (ho : OrdN m ts (2 * ts.length) rows) (ht : TiesOk m ts) (h1 : (partsD m ts).length = 1) {x : Nat} (hx : x < 2 * ts.length) {k : Nat} (hk : k < 2 * ts.length) : k < (nlist ts rows x k).length := by
  apply Classical.byContradiction
  intro hn
  have := (nl_full ho ht h1 hx (k := k) (by omega)).1
  omega
end
end Lw
end

section
namespace Lw
open PySem DL
section
variable {m : Int} {ts : List (Int × Int)} {rows : List (List Int)}
def metK (L : List Nat) : List (Ky × D) := L.map fun e : Nat => (.inl (e : Int), .bool true)
theorem metK_val {L : List Nat} {e : Nat} : (valD (metK L) (.inl (e : Int))).isSome = decide (e ∈ L) := by
  unfold metK valD
  induction L with
  | nil => simp
  | cons x L ih =>
    rw [List.map_cons, List.find?_cons]
    by_cases h : x = e
    · subst h; simp
    · have : ¬ ((Sum.inl (x : Int) : Ky) = .inl (e : Int)) := fun q => h (by have := Sum.inl.inj q; omega)
      simp only [this, decide_false]
      rw [ih]
      simp [Ne.symm h]
theorem metK_put {L : List Nat} {e : Nat} (h : e ∉ L) : putD (metK L) (.inl (e : Int)) (.bool true) = metK (L ++ [e]) := by
  unfold putD
  have : (metK L).any (fun kv => decide (kv.1 = (Sum.inl (e : Int) : Ky))) = false := by
    rw [List.any_eq_false]
    intro kv hkv
    unfold metK at hkv
    obtain ⟨x, hx, rfl⟩ := List.mem_map.mp hkv
    simp only [decide_eq_true_eq]
    intro q
    have := Sum.inl.inj q
    have : x = e := by omega
    exact h (this ▸ hx)
  rw [this, if_neg (by simp)]
  unfold metK
  rw [List.map_append]
  rfl
def afD (ts : List (Int × Int)) (rows : List (List Int)) : List D := (List.range (2 * ts.length)).map fun e : Nat => .int ((nxF ts rows e : Nat) : Int)
theorem afD_get {e : Nat} (h : e < 2 * ts.length) : ixP (afD ts rows) (e : Int) = some (.int ((nxF ts rows e : Nat) : Int)) := ixP_nat (by unfold afD; rw [List.getElem?_map, List.getElem?_range h]; rfl)
def NuI (ts : List (Int × Int)) (rows : List (List Int)) (x k : Nat) (r : Ro) : Prop := ∃ x4 x5 x6, r = [.frz false (.list (afD ts rows)), .frz false (.int (x : Int)), .own false (.lst (natL (nlist ts rows x k))), .own false (.dK (metK (nlist ts rows x k))), x4, x5, x6] ∧ Fr x4 ∧ Fr x5 ∧ Fr x6
def NuH (ts : List (Int × Int)) (rows : List (List Int)) (x k e : Nat) (Lf : Nat → List Nat) (h : Nat) (r : Ro) : Prop := ∃ x6, r = [.frz false (.list (afD ts rows)), .frz false (.int (x : Int)), .own false (.lst (natL (Lf h))), .own false (.dK (metK (Lf h))), .frz false (.int (k : Int)), .frz false (.int (e : Int)), x6] ∧ Fr x6
set_option maxHeartbeats 8000000 in
theorem numbered_ok (ho : OrdN m ts (2 * ts.length) rows) (ht : TiesOk m ts) (hl : ts.length ≤ 1000) (h1 : (partsD m ts).length = 1) {x : Nat} (hx : x < 2 * ts.length) :
    Oks sem_numbered_8309 [.fz (.list (afD ts rows)), .fz (.int (x : Int))] fun v ys => v = .ok (.val (.list (natL (nlist ts rows x (2 * ts.length))))) ∧ ys = [.fz (.list (afD ts rows)), .fz (.int (x : Int))] := by
  have lb : (lineD : Nat) = 16777216 := rfl
  have gl1 : ∀ a : D, gLst [.fz a] = some (.new (.lst [a])) := fun _ => rfl
  have glA : gLen [.fz (.list (afD ts rows))] = some (.val (.int ((2 * ts.length : Nat) : Int))) := by unfold afD; simp
  have k0 : (-4611686018427387904 : Int) ≤ ((2 * ts.length : Nat) : Int) := by omega
  have k1 : ((2 * ts.length : Nat) : Int) < (4611686018427387904 : Int) := by omega
  obtain ⟨N2, hN2⟩ : ∃ N2 : Nat, N2 = 2 * ts.length := ⟨_, rfl⟩
  rw [← hN2] at glA k0 k1
  refine oks_def rfl ?_
  simp [-getElem?_pos, -List.getD_eq_getElem?_getD, -getElem?_neg, List.getElem?_cons_zero, List.getElem?_cons_succ, b_numbered_8309, gl1, glA, k0, k1]
  refine forS_inv (NuI ts rows x) (rng 0 (N2 : Int)) 0 _ ?_ (fun k d r hd h => ?_) (fun r h => ?_)
  · exact ⟨.non, .non, .non, rfl, .non, .non, .non⟩
  · obtain ⟨rfl, hk⟩ := rng0_get hd
    rw [Nat.zero_add] at h ⊢
    obtain ⟨x4, x5, x6, rfl, h4, h5, h6⟩ := h
    have hN := nl_ok ho ht hx k
    have hlong := nl_long ho ht h1 hx (k := k) (by omega)
    have hg := List.getElem?_eq_getElem hlong
    obtain ⟨e, ee⟩ : ∃ e, e = (nlist ts rows x k)[k] := ⟨_, rfl⟩
    rw [← ee] at hg
    have hem := hN.lt e (List.mem_of_getElem? hg)
    have hcnt := nodup_len _ _ hN.nd hN.lt
    have hix : ixP (natL (nlist ts rows x k)) (k : Int) = some (.int (e : Int)) := ixP_nat (by unfold natL; rw [List.getElem?_map, hg]; rfl)
    obtain ⟨_, _, f1, rfl, rfl⟩ := partner_ok2 (e := e) (by omega)
    have haf := afD_get (ts := ts) (rows := rows) hem
    have gt : gTup [.fz (.int ((ptn e : Nat) : Int)), .fz (.int ((nxF ts rows e : Nat) : Int))] = some (.val (.tuple [.int ((ptn e : Nat) : Int), .int ((nxF ts rows e : Nat) : Int)])) := rfl
    have hst : nlist ts rows x (k + 1) = add1N (add1N (nlist ts rows x k) (ptn e)) (nxF ts rows e) := by
      show nstep ts rows (nlist ts rows x k) k = _
      unfold nstep
      rw [hg]
    simp [-getElem?_pos, -List.getD_eq_getElem?_getD, -getElem?_neg, List.getElem?_cons_zero, List.getElem?_cons_succ, h4.pin, h5.pin, hix, f1, haf, gt]
    refine forS_inv (NuH ts rows x k e (fun h => if h = 0 then nlist ts rows x k else if h = 1 then add1N (nlist ts rows x k) (ptn e) else nlist ts rows x (k + 1))) [.int ((ptn e : Nat) : Int), .int ((nxF ts rows e : Nat) : Int)] 0 _ ?_ (fun q d r hd h => ?_) (fun r h => ?_)
    · exact ⟨x6, rfl, h6⟩
    · rw [Nat.zero_add] at h ⊢
      obtain ⟨x6, rfl, h6⟩ := h
      have half : ∀ (L : List Nat) (v : Nat) (Q : SO → Ro → Prop), L.length < 100000 → W (setN 6 (.int (v : Int))) [.frz false (.list (afD ts rows)), .frz false (.int (x : Int)), .own false (.lst (natL L)), .own false (.dK (metK L)), .frz false (.int (k : Int)), .frz false (.int (e : Int)), x6] (nxP (sIf (mTst (mIn true 3 (oS 6))) (sSeq (sPut 3 (mC (.bool true)) (oS 6)) (sDrop (mMut gAppend 2 [(oE (mRd 6))]))) sNx) (loopP (NuH ts rows x k e (fun _ => add1N L v) 0) Q)) := fun L v Q hL => by
        have mv := metK_val (L := L) (e := v)
        have lk : (metK L).length < lineD := by unfold metK; rw [List.length_map]; omega
        have ln : (natL L).length = L.length := by unfold natL; rw [List.length_map]
        have ll : L.length < lineD := by omega
        by_cases hin : v ∈ L
        · rw [decide_eq_true hin] at mv
          have e1 : add1N L v = L := if_pos hin
          rw [e1]
          simp [-getElem?_pos, -List.getD_eq_getElem?_getD, -getElem?_neg, List.getElem?_cons_zero, List.getElem?_cons_succ, h6.pin, mv]
          exact ⟨_, rfl, .frz⟩
        · rw [decide_eq_false hin] at mv
          have e1 : add1N L v = L ++ [v] := if_neg hin
          have pu := metK_put hin
          have e2 : natL L ++ [.int (v : Int)] = natL (L ++ [v]) := by unfold natL; rw [List.map_append]; rfl
          rw [e1]
          simp [-getElem?_pos, -List.getD_eq_getElem?_getD, -getElem?_neg, List.getElem?_cons_zero, List.getElem?_cons_succ, h6.pin, mv, pu, lk, ln, ll, e2]
          exact ⟨_, rfl, .frz⟩
      match q, hd with
      | 0, hd =>
        cases hd
        exact half (nlist ts rows x k) (ptn e) _ (by omega)
      | 1, hd =>
        cases hd
        have h2 := half (add1N (nlist ts rows x k) (ptn e)) (nxF ts rows e)
        rw [← hst] at h2
        have hlen : (add1N (nlist ts rows x k) (ptn e)).length < 100000 := by
          unfold add1N
          split
          · omega
          · rw [List.length_append, List.length_singleton]; omega
        exact h2 _ hlen
      | q + 2, hd => cases hd
    · obtain ⟨x6, rfl, h6⟩ := h
      exact ⟨_, _, _, rfl, .frz, .frz, h6⟩
  · rw [Nat.zero_add, rng0_len, Int.toNat_natCast] at h
    obtain ⟨x4, x5, x6, rfl, h4, h5, h6⟩ := h
    rw [← hN2]
    simp [-getElem?_pos, -List.getD_eq_getElem?_getD, -getElem?_neg, List.getElem?_cons_zero, List.getElem?_cons_succ]
end
end Lw
end

section
namespace Lw
open PySem DL
section
variable {m : Int} {ts : List (Int × Int)} {rows : List (List Int)}
end
end Lw
end

section
namespace Lw
open PySem DL
section
variable {m : Int} {ts : List (Int × Int)} {rows : List (List Int)}
def foL (ts : List (Int × Int)) (rows : List (List Int)) (P : List Int) : List D := (List.range (2 * ts.length)).map fun e : Nat => .int (if (e : Int) ∈ P then ((nxF ts rows e : Nat) : Int) else 0)
theorem foL_set {P : List Int} {y : Nat} (h : y < 2 * ts.length) : (foL ts rows P).set y (.int ((nxF ts rows y : Nat) : Int)) = foL ts rows (P ++ [(y : Int)]) := by
  apply List.ext_getElem?
  intro i
  rw [List.getElem?_set]
  unfold foL
  rw [List.length_map, List.length_range, List.getElem?_map, List.getElem?_map]
  by_cases e : y = i
  · subst e
    rw [if_pos rfl, if_pos h, List.getElem?_range h]
    simp
  · rw [if_neg e]
    by_cases hi : i < 2 * ts.length
    · rw [List.getElem?_range hi]
      have : ¬ (i : Int) = (y : Int) := by omega
      simp [this]
    · rw [List.getElem?_eq_none (by rw [List.length_range]; omega)]
      rfl
def FoI1 (m : Int) (ts : List (Int × Int)) (rows : List (List Int)) (q : Nat) (r : Ro) : Prop := ∃ x2 x6, r = [.frz false (webD m ts), .frz false (orderD rows), .own false (.lst (foL ts rows (rows.take q).flatten)), x2, x6, .non] ∧ Fr x2 ∧ Fr x6
def FoI2 (m : Int) (ts : List (Int × Int)) (rows : List (List Int)) (q : Nat) (row : List Int) (j : Nat) (r : Ro) : Prop := ∃ x6, r = [.frz false (webD m ts), .frz false (orderD rows), .own false (.lst (foL ts rows ((rows.take q).flatten ++ row.take j))), .frz false (.tuple (row.map .int)), x6, .non] ∧ Fr x6
set_option maxHeartbeats 8000000 in
theorem followers_ok (ho : OrdN m ts (2 * ts.length) rows) (ht : TiesOk m ts) (hl : ts.length ≤ 1000) (hm : m ≤ 1000) :
    Oks sem_followers_13ce [.fz (webD m ts), .fz (orderD rows)] fun v ys => v = .ok (.val (.list (afD ts rows))) ∧ ys = [.fz (webD m ts), .fz (orderD rows)] := by
  have hrl := ho.len
  have lb : (lineD : Nat) = 16777216 := rfl
  have glt : gLen [.fz (.tuple (ts.map tieD))] = some (.val (.int (ts.length : Int))) := by simp
  have sm : SmM 2 (ts.length : Int) := smM_of (by omega) (by omega)
  have k0 : (-4611686018427387904 : Int) ≤ 2 * (ts.length : Int) := by omega
  have k1 : 2 * (ts.length : Int) < (4611686018427387904 : Int) := by omega
  have ord : rowOf (orderD rows) = some (rows.map fun row => PyData.tuple (row.map .int)) := rfl
  refine oks_def rfl ?_
  simp [-getElem?_pos, -List.getD_eq_getElem?_getD, -getElem?_neg, List.getElem?_cons_zero, List.getElem?_cons_succ, b_followers_13ce, web_1, glt, sm, k0, k1, anyPin]
  refine lcK_map (fun _ => .int 0) (fun d hd => ?_) ?_ ?_
  · obtain ⟨k, rfl, _⟩ := rng0_mem hd
    simp [-getElem?_pos, -List.getD_eq_getElem?_getD, -getElem?_neg, List.getElem?_cons_zero, List.getElem?_cons_succ]
  · rw [rng0_len]; omega
  have ez : (rng 0 (2 * (ts.length : Int))).map (fun _ => PyData.int 0) = foL ts rows (rows.take 0).flatten := by
    apply List.ext_getElem?
    intro i
    unfold foL
    rw [List.getElem?_map, List.getElem?_map, List.take_zero]
    by_cases hi : i < 2 * ts.length
    · rw [List.getElem?_range hi, List.getElem?_eq_getElem (by rw [rng0_len]; omega)]
      simp
    · rw [List.getElem?_eq_none (by rw [rng0_len]; omega), List.getElem?_eq_none (by rw [List.length_range]; omega)]
      rfl
  rw [ez]
  simp [-getElem?_pos, -List.getD_eq_getElem?_getD, -getElem?_neg, List.getElem?_cons_zero, List.getElem?_cons_succ, ord]
  refine forS_inv (FoI1 m ts rows) (rows.map fun row => PyData.tuple (row.map .int)) 0 _ ?_ (fun q d r hd h => ?_) (fun r h => ?_)
  · exact ⟨.non, .non, rfl, .non, .non⟩
  · rw [Nat.zero_add] at h ⊢
    obtain ⟨x2, x6, rfl, h2, h6⟩ := h
    rw [List.getElem?_map] at hd
    cases hrow : rows[q]? with
    | none => rw [hrow] at hd; cases hd
    | some row =>
      rw [hrow] at hd
      cases hd
      have hlen := (ho.row q row hrow).len
      have o1 : (row.length : Int) < 4611686018427387904 := by omega
      have o2 : -4611686018427387904 ≤ (row.length : Int) := by omega
      have htake : (rows.take (q + 1)).flatten = (rows.take q).flatten ++ row := by
        rw [List.take_add_one, hrow]
        simp
      simp [-getElem?_pos, -getElem?_neg, List.getElem?_cons_zero, List.getElem?_cons_succ, h2.pin, o1, o2]
      refine forS_inv (FoI2 m ts rows q row) (rng 0 (row.length : Int)) 0 _ ?_ (fun j d r hd h => ?_) (fun r h => ?_)
      · exact ⟨x6, by simp, h6⟩
      · obtain ⟨rfl, hj⟩ := rng0_get hd
        rw [Nat.zero_add] at h ⊢
        obtain ⟨x6, rfl, h6⟩ := h
        have hj2 : j < row.length := by omega
        have hy : row[j]? = some (row[j]'hj2) := List.getElem?_eq_getElem hj2
        have hnx := next_at ho ht hrow hy
        have hiy : ixP (row.map PyData.int) (j : Int) = some (.int (row[j]'hj2)) := ixP_nat (by rw [List.getElem?_map, hy]; rfl)
        have hix : ixP (row.map PyData.int) (((j : Int) + 1) % (row.length : Int)) = some (.int ((nxF ts rows (row[j]'hj2).toNat : Nat) : Int)) := by
          have : (((j : Int) + 1) % (row.length : Int)) = (((j + 1) % row.length : Nat) : Int) := by push_cast; rfl
          rw [this]
          exact ixP_nat (by rw [List.getElem?_map, hnx]; rfl)
        have hrp : 0 < (row.length : Int) := by omega
        have hpre : (rows.take q).flatten ++ row.take j ++ [row[j]'hj2] = (rows.take q).flatten ++ row.take (j + 1) := by
          rw [List.take_add_one, hy]
          simp
        have hym := ((ho.row q row hrow).mem (row[j]'hj2)).mp (List.getElem_mem _)
        obtain ⟨y, ey⟩ : ∃ y : Nat, row[j]'hj2 = (y : Int) := ⟨(row[j]'hj2).toNat, by omega⟩
        rw [ey] at hiy hix hpre hym
        rw [Int.toNat_natCast] at hix
        have hset := foL_set (ts := ts) (rows := rows) (P := (rows.take q).flatten ++ row.take j) (y := y) (by omega)
        rw [hpre] at hset
        have xd : ixD (2 * ts.length) (y : Int) = some y := ixD_nat (by omega)
        have ll : (foL ts rows ((rows.take q).flatten ++ row.take j)).length = 2 * ts.length := by unfold foL; rw [List.length_map, List.length_range]
        simp [-getElem?_pos, -List.getD_eq_getElem?_getD, -getElem?_neg, List.getElem?_cons_zero, List.getElem?_cons_succ, h6.pin, hiy, hix, hrp, ll, xd, hset]
        exact ⟨by omega, _, rfl, .frz⟩
      · rw [Nat.zero_add, rng0_len, show ((row.length : Int)).toNat = row.length by omega] at h
        obtain ⟨x6, rfl, h6⟩ := h
        simp [-getElem?_pos, -getElem?_neg, List.getElem?_cons_zero, List.getElem?_cons_succ]
        refine ⟨.frz false (.tuple (row.map .int)), x6, ?_, .frz, h6⟩
        rw [htake]
  · rw [Nat.zero_add, List.length_map] at h
    obtain ⟨x2, x6, rfl, h2, h6⟩ := h
    rw [List.take_length]
    have : foL ts rows rows.flatten = afD ts rows := by
      unfold foL afD
      refine List.map_congr_left fun e he => ?_
      have := List.mem_range.mp he
      rw [if_pos ((flat_mem ho ht).mpr ⟨by omega, by omega⟩)]
    rw [this]
    simp [-getElem?_pos, -List.getD_eq_getElem?_getD, -getElem?_neg, List.getElem?_cons_zero, List.getElem?_cons_succ]
end
end Lw
end

section
namespace Lw
open PySem DL
section
variable {m : Int} {ts : List (Int × Int)} {rows : List (List Int)}
end
end Lw
end

section
namespace Lw
open PySem DL
section
variable {m : Int} {ts : List (Int × Int)} {rows : List (List Int)}
/-- where an end stands -/
noncomputable def posN (L : List Nat) (e : Nat) : Nat := by
  classical
  exact if h : ∃ k : Nat, L[k]? = some e then h.choose else 0
theorem posN_eq {L : List Nat} (nd : L.Nodup) {k e : Nat} (h : L[k]? = some e) : posN L e = k := by
  unfold posN
  have hex : ∃ k : Nat, L[k]? = some e := ⟨k, h⟩
  rw [dif_pos hex]
  have := hex.choose_spec
  exact ((List.getElem?_inj (List.getElem?_eq_some_iff.mp this).1 nd).mp (this.trans h.symm))
noncomputable def codeD (ts : List (Int × Int)) (rows : List (List Int)) (L : List Nat) : D := .tuple (L.map fun e => .tuple [.int ((posN L (ptn e) : Nat) : Int), .int ((posN L (nxF ts rows e) : Nat) : Int)])
noncomputable def nuL (N : Nat) (L : List Nat) (k : Nat) : List D := (List.range N).map fun e : Nat => .int (if posN L e < k then ((posN L e : Nat) : Int) else 0)
theorem nuL_set {N : Nat} {L : List Nat} (nd : L.Nodup) (full : ∀ z, z < N → z ∈ L) {k e : Nat} (h : L[k]? = some e) (he : e < N) : (nuL N L k).set e (.int (k : Int)) = nuL N L (k + 1) := by
  apply List.ext_getElem?
  intro i
  rw [List.getElem?_set]
  unfold nuL
  rw [List.length_map, List.length_range, List.getElem?_map, List.getElem?_map]
  by_cases ei : e = i
  · subst ei
    rw [if_pos rfl, if_pos he, List.getElem?_range he]
    simp [posN_eq nd h]
  · rw [if_neg ei]
    by_cases hi : i < N
    · rw [List.getElem?_range hi]
      obtain ⟨k', hk'⟩ := List.mem_iff_getElem?.mp (full i hi)
      have hp := posN_eq nd hk'
      have hne : k' ≠ k := fun e2 => ei (by rw [e2, h] at hk'; exact Option.some.inj hk')
      simp only [Option.map_some, hp]
      have : (k' < k + 1) ↔ (k' < k) := by omega
      simp only [this]
    · rw [List.getElem?_eq_none (by rw [List.length_range]; omega)]
      rfl
def CoI (ts : List (Int × Int)) (rows : List (List Int)) (L : List Nat) (k : Nat) (r : Ro) : Prop := ∃ x3, r = [.frz false (.list (afD ts rows)), .frz false (.list (natL L)), .own false (.lst (nuL (2 * ts.length) L k)), x3, .non] ∧ Fr x3
noncomputable def codF (ts : List (Int × Int)) (rows : List (List Int)) (L : List Nat) : D → D
  | .int e => .tuple [.int ((posN L (ptn e.toNat) : Nat) : Int), .int ((posN L (nxF ts rows e.toNat) : Nat) : Int)]
  | d => d
set_option maxHeartbeats 8000000 in
theorem coded_ok (ho : OrdN m ts (2 * ts.length) rows) (ht : TiesOk m ts) (hl : ts.length ≤ 1000) {L : List Nat} (nd : L.Nodup) (lt : ∀ z ∈ L, z < 2 * ts.length) (full : ∀ z, z < 2 * ts.length → z ∈ L) (hlen : L.length = 2 * ts.length) :
    Oks sem_coded_69cd [.fz (.list (afD ts rows)), .fz (.list (natL L))] fun v ys => v = .ok (.val (codeD ts rows L)) ∧ ys = [.fz (.list (afD ts rows)), .fz (.list (natL L))] := by
  have lb : (lineD : Nat) = 16777216 := rfl
  have ro : rowOf (.list (natL L)) = some (natL L) := rfl
  have nl : (natL L).length = L.length := by unfold natL; rw [List.length_map]
  have k0 : (-4611686018427387904 : Int) ≤ (L.length : Int) := by omega
  have k1 : (L.length : Int) < (4611686018427387904 : Int) := by omega
  refine oks_def rfl ?_
  simp [-getElem?_pos, -List.getD_eq_getElem?_getD, -getElem?_neg, List.getElem?_cons_zero, List.getElem?_cons_succ, b_coded_69cd, ro, anyPin]
  refine lcK_map (fun _ => .int 0) (fun d hd => ?_) (by omega) ?_
  · unfold natL at hd
    obtain ⟨k, _, rfl⟩ := List.mem_map.mp hd
    simp [-getElem?_pos, -List.getD_eq_getElem?_getD, -getElem?_neg, List.getElem?_cons_zero, List.getElem?_cons_succ]
  have ez : (natL L).map (fun _ => PyData.int 0) = nuL (2 * ts.length) L 0 := by
    apply List.ext_getElem?
    intro i
    unfold nuL
    rw [List.getElem?_map, List.getElem?_map]
    by_cases hi : i < 2 * ts.length
    · rw [List.getElem?_range hi, List.getElem?_eq_getElem (by omega)]
      simp
    · rw [List.getElem?_eq_none (by omega), List.getElem?_eq_none (by rw [List.length_range]; omega)]
      rfl
  rw [ez]
  simp [-getElem?_pos, -List.getD_eq_getElem?_getD, -getElem?_neg, List.getElem?_cons_zero, List.getElem?_cons_succ, nl, k0, k1]
  refine forS_inv (CoI ts rows L) (rng 0 (L.length : Int)) 0 _ ?_ (fun k d r hd h => ?_) (fun r h => ?_)
  · exact ⟨.non, rfl, .non⟩
  · obtain ⟨rfl, hk⟩ := rng0_get hd
    rw [Nat.zero_add] at h ⊢
    obtain ⟨x3, rfl, h3⟩ := h
    have hg := List.getElem?_eq_getElem (l := L) (i := k) (by omega)
    obtain ⟨e, ee⟩ : ∃ e, e = L[k]'(by omega) := ⟨_, rfl⟩
    rw [← ee] at hg
    have hem := lt e (List.mem_of_getElem? hg)
    have hix : ixP (natL L) (k : Int) = some (.int (e : Int)) := ixP_nat (by unfold natL; rw [List.getElem?_map, hg]; rfl)
    have hset := nuL_set nd full hg hem
    have ll : (nuL (2 * ts.length) L k).length = 2 * ts.length := by unfold nuL; rw [List.length_map, List.length_range]
    have xd : ixD (2 * ts.length) (e : Int) = some e := ixD_nat (by omega)
    simp [-getElem?_pos, -List.getD_eq_getElem?_getD, -getElem?_neg, List.getElem?_cons_zero, List.getElem?_cons_succ, h3.pin, hix, ll, xd, hset]
    exact ⟨_, rfl, .frz⟩
  · rw [Nat.zero_add, rng0_len, Int.toNat_natCast] at h
    obtain ⟨x3, rfl, h3⟩ := h
    have ng : ∀ e, e < 2 * ts.length → ixP (nuL (2 * ts.length) L L.length) (e : Int) = some (.int ((posN L e : Nat) : Int)) := fun e he => ixP_nat (by
      unfold nuL
      rw [List.getElem?_map, List.getElem?_range he]
      obtain ⟨k', hk'⟩ := List.mem_iff_getElem?.mp (full e he)
      have hp := posN_eq nd hk'
      have := (List.getElem?_eq_some_iff.mp hk').1
      simp only [Option.map_some, hp]
      rw [if_pos this])
    simp [-getElem?_pos, -List.getD_eq_getElem?_getD, -getElem?_neg, List.getElem?_cons_zero, List.getElem?_cons_succ, ro, anyPin]
    refine lcK_map (codF ts rows L) (fun d hd => ?_) (by omega) ?_
    · unfold natL at hd
      obtain ⟨e, he, rfl⟩ := List.mem_map.mp hd
      have hem := lt e he
      obtain ⟨_, _, f1, rfl, rfl⟩ := partner_ok2 (e := e) (by omega)
      have haf := afD_get (ts := ts) (rows := rows) hem
      have n1 := ng (ptn e) (ptn_lt hem)
      have n2 := ng (nxF ts rows e) ((nx_stp ho ht).cl e hem)
      simp [-getElem?_pos, -List.getD_eq_getElem?_getD, -getElem?_neg, List.getElem?_cons_zero, List.getElem?_cons_succ, f1, haf, n1, n2, codF]
    · have em : (natL L).map (codF ts rows L) = L.map fun e => .tuple [.int ((posN L (ptn e) : Nat) : Int), .int ((posN L (nxF ts rows e) : Nat) : Int)] := by
        unfold natL
        rw [List.map_map]
        rfl
      rw [em]
      simp [-getElem?_pos, -List.getD_eq_getElem?_getD, -getElem?_neg, List.getElem?_cons_zero, List.getElem?_cons_succ, codeD]
end
end Lw
end

section
namespace Lw
open PySem DL
section
variable {m : Int} {ts : List (Int × Int)} {rows : List (List Int)}
end
end Lw
end

section
namespace Lw
open PySem DL
end Lw
end

section
namespace Lw
open PySem DL
/-- a list that holds all below N and is not longer has none twice -/
theorem nodup_of_full {L : List Nat} {N : Nat} (all : ∀ z, z < N → z ∈ L) (hl : L.length ≤ N) : L.Nodup := by
  rw [List.nodup_iff_pairwise_ne, List.pairwise_iff_getElem]
  intro i j hi hj hij e
  have ex : ∀ z, z < N → ∃ k, L[k]? = some z ∧ k ≠ j := fun z hz => by
    obtain ⟨k, hk⟩ := List.mem_iff_getElem?.mp (all z hz)
    by_cases hkj : k = j
    · refine ⟨i, ?_, by omega⟩
      subst hkj
      rw [List.getElem?_eq_getElem hj] at hk
      rw [List.getElem?_eq_getElem hi, e, hk]
    · exact ⟨k, hk, hkj⟩
  have b := many_le (n := N) (M := L.length - 1) (fun z => if h : z < N then (if (ex z h).choose < j then (ex z h).choose else (ex z h).choose - 1) else 0) (fun z hz => by
    simp only [dif_pos hz]
    obtain ⟨c1, c2⟩ := (ex z hz).choose_spec
    have := (List.getElem?_eq_some_iff.mp c1).1
    split <;> omega) (fun z z' hz hz' e => by
    simp only [dif_pos hz, dif_pos hz'] at e
    obtain ⟨c1, c2⟩ := (ex z hz).choose_spec
    obtain ⟨d1, d2⟩ := (ex z' hz').choose_spec
    have : (ex z hz).choose = (ex z' hz').choose := by
      split at e <;> split at e <;> omega
    rw [this, d1] at c1
    exact (Option.some.inj c1).symm)
  omega
/-- the ends hang together -/
structure FlC (N : Nat) (F : Nat → Nat) : Prop where
  cl : ∀ y, y < N → F y < N
  cp : ∀ y, y < N → ptn y < N
  con : ∀ O : Nat → Prop, (∀ y, O y → y < N) → (∀ y, O y → O (ptn y)) → (∀ y, O y → O (F y)) → ∀ x, O x → ∀ z, z < N → O z
/-- a renaming -/
structure Hm (N : Nat) (F G h : Nat → Nat) : Prop where
  lt : ∀ e, e < N → h e < N
  pt : ∀ e, e < N → h (ptn e) = ptn (h e)
  fo : ∀ e, e < N → h (F e) = G (h e)
section
variable {N : Nat} {F G K h g : Nat → Nat}
theorem Hm.uniq (f : FlC N F) (a : Hm N F G h) (b : Hm N F G g) {x : Nat} (hx : x < N) (e : h x = g x) : ∀ z, z < N → h z = g z := fun z hz =>
  (f.con (fun y => y < N ∧ h y = g y) (fun y hy => hy.1) (fun y hy => ⟨f.cp y hy.1, by rw [a.pt y hy.1, b.pt y hy.1, hy.2]⟩) (fun y hy => ⟨f.cl y hy.1, by rw [a.fo y hy.1, b.fo y hy.1, hy.2]⟩) x ⟨hx, e⟩ z hz).2
theorem Hm.surj (f : FlC N F) (gc : FlC N G) (a : Hm N F G h) (h0 : 0 < N) : ∀ w, w < N → ∃ z, z < N ∧ h z = w := fun w hw =>
  gc.con (fun w => ∃ z, z < N ∧ h z = w) (fun y ⟨z, hz, e⟩ => e ▸ a.lt z hz) (fun y ⟨z, hz, e⟩ => ⟨ptn z, f.cp z hz, by rw [a.pt z hz, e]⟩) (fun y ⟨z, hz, e⟩ => ⟨F z, f.cl z hz, by rw [a.fo z hz, e]⟩) (h 0) ⟨0, h0, rfl⟩ w hw
theorem Hm.nd (f : FlC N F) (gc : FlC N G) (a : Hm N F G h) : ((List.range N).map h).Nodup := by
  by_cases h0 : 0 < N
  · refine nodup_of_full (N := N) (fun z hz => ?_) (by simp)
    obtain ⟨w, hw, e⟩ := a.surj f gc h0 z hz
    exact List.mem_map.mpr ⟨w, List.mem_range.mpr hw, e⟩
  · have : N = 0 := by omega
    subst this
    simp
theorem Hm.inj (f : FlC N F) (gc : FlC N G) (a : Hm N F G h) : ∀ x y, x < N → y < N → h x = h y → x = y := fun x y hx hy e => by
  have nd := a.nd f gc
  have e1 : ((List.range N).map h)[x]? = some (h x) := by rw [List.getElem?_map, List.getElem?_range hx]; rfl
  have e2 : ((List.range N).map h)[y]? = some (h x) := by rw [List.getElem?_map, List.getElem?_range hy, e]; rfl
  exact (List.getElem?_inj (List.getElem?_eq_some_iff.mp e1).1 nd).mp (e1.trans e2.symm)
theorem Hm.id : Hm N F F fun x => x := ⟨fun _ h => h, fun _ _ => rfl, fun _ _ => rfl⟩
theorem Hm.comp (a : Hm N F G h) (b : Hm N G K g) : Hm N F K fun x => g (h x) :=
  ⟨fun e he => b.lt _ (a.lt e he), fun e he => by rw [a.pt e he, b.pt _ (a.lt e he)], fun e he => by rw [a.fo e he, b.fo _ (a.lt e he)]⟩
/-- the renaming back -/
theorem Hm.back (f : FlC N F) (gc : FlC N G) (a : Hm N F G h) (h0 : 0 < N) : ∃ g, Hm N G F g ∧ (∀ x, x < N → g (h x) = x) ∧ ∀ y, y < N → h (g y) = y := by
  classical
  have s := a.surj f gc h0
  have inj := a.inj f gc
  refine ⟨fun y => if hy : y < N then (s y hy).choose else 0, ?_, ?_, ?_⟩
  · have sp : ∀ y (hy : y < N), (if hy : y < N then (s y hy).choose else 0) < N ∧ h (if hy : y < N then (s y hy).choose else 0) = y := fun y hy => by
      rw [dif_pos hy]
      exact (s y hy).choose_spec
    refine ⟨fun y hy => (sp y hy).1, fun y hy => ?_, fun y hy => ?_⟩
    · have a1 := sp y hy
      have a2 := sp (ptn y) (gc.cp y hy)
      exact inj _ _ a2.1 (f.cp _ a1.1) (by rw [a2.2, a.pt _ a1.1, a1.2])
    · have a1 := sp y hy
      have a2 := sp (G y) (gc.cl y hy)
      exact inj _ _ a2.1 (f.cl _ a1.1) (by rw [a2.2, a.fo _ a1.1, a1.2])
  · intro x hx
    simp only [dif_pos (a.lt x hx)]
    have c := (s (h x) (a.lt x hx)).choose_spec
    exact inj _ _ c.1 hx c.2
  · intro y hy
    simp only [dif_pos hy]
    exact ((s y hy).choose_spec).2
end
/-- the numbers from an end on, by any follower -/
def nsG (F : Nat → Nat) (L : List Nat) (k : Nat) : List Nat := match L[k]? with
  | some e => add1N (add1N L (ptn e)) (F e)
  | none => L
def nlG (F : Nat → Nat) (x : Nat) : Nat → List Nat
  | 0 => [x]
  | k + 1 => nsG F (nlG F x k) k
theorem nlG_eq {ts : List (Int × Int)} {rows : List (List Int)} {x : Nat} : ∀ k, nlist ts rows x k = nlG (nxF ts rows) x k
  | 0 => rfl
  | k + 1 => by
    show nstep ts rows (nlist ts rows x k) k = nsG (nxF ts rows) (nlG (nxF ts rows) x k) k
    rw [nlG_eq k]
    rfl
section
variable {N : Nat} {F G K h g : Nat → Nat}
theorem add1N_map {L : List Nat} {e : Nat} (inj : ∀ x y, x < N → y < N → h x = h y → x = y) (hL : ∀ z ∈ L, z < N) (he : e < N) : add1N (L.map h) (h e) = (add1N L e).map h := by
  unfold add1N
  have : h e ∈ L.map h ↔ e ∈ L := ⟨fun hm => by
    obtain ⟨z, hz, e2⟩ := List.mem_map.mp hm
    rw [← inj z e (hL z hz) he e2]
    exact hz, fun hm => List.mem_map_of_mem hm⟩
  by_cases hm : e ∈ L
  · rw [if_pos hm, if_pos (this.mpr hm)]
  · rw [if_neg hm, if_neg (fun q => hm (this.mp q)), List.map_append]
    rfl
theorem nlG_lt (f : FlC N F) {x : Nat} (hx : x < N) : ∀ k, ∀ z ∈ nlG F x k, z < N
  | 0 => fun z hz => by rw [List.mem_singleton.mp hz]; exact hx
  | k + 1 => fun z hz => by
    have ih := nlG_lt f hx k
    have hz : z ∈ nsG F (nlG F x k) k := hz
    unfold nsG at hz
    cases hk : (nlG F x k)[k]? with
    | none => rw [hk] at hz; exact ih z hz
    | some e =>
      rw [hk] at hz
      have he := ih e (List.mem_of_getElem? hk)
      rcases add1N_mem.mp hz with hz | rfl
      · rcases add1N_mem.mp hz with hz | rfl
        · exact ih z hz
        · exact f.cp e he
      · exact f.cl e he
theorem nlG_map (f : FlC N F) (gc : FlC N G) (a : Hm N F G h) {x : Nat} (hx : x < N) : ∀ k, nlG G (h x) k = (nlG F x k).map h
  | 0 => rfl
  | k + 1 => by
    have ih := nlG_map f gc a hx k
    have inj := a.inj f gc
    have hL := nlG_lt f hx k
    show nsG G (nlG G (h x) k) k = (nsG F (nlG F x k) k).map h
    rw [ih]
    unfold nsG
    rw [List.getElem?_map]
    cases hk : (nlG F x k)[k]? with
    | none => rfl
    | some e =>
      have he := hL e (List.mem_of_getElem? hk)
      show add1N (add1N ((nlG F x k).map h) (ptn (h e))) (G (h e)) = (add1N (add1N (nlG F x k) (ptn e)) (F e)).map h
      rw [← a.pt e he, ← a.fo e he, add1N_map inj hL (f.cp e he), add1N_map inj (fun z hz => by
        rcases add1N_mem.mp hz with hz | rfl
        · exact hL z hz
        · exact f.cp e he) (f.cl e he)]
end
end Lw
end

section
namespace Lw
open PySem DL
def Pl : Nat → D → Prop
  | _, .int _ => True
  | _, .none => True
  | k + 1, .tuple ds => ∀ d ∈ ds, Pl k d
  | k + 1, .list ds => ∀ d ∈ ds, Pl k d
  | _, _ => False
theorem Pl.up : ∀ {k : Nat} {d : D}, Pl k d → Pl (k + 1) d
  | _, .int _, _ => by simp [Pl]
  | _, .none, _ => by simp [Pl]
  | 0, .tuple _, h => by simp [Pl] at h
  | 0, .list _, h => by simp [Pl] at h
  | k + 1, .tuple ds, h => by
    simp only [Pl] at h ⊢
    exact fun d hd => (h d hd).up
  | k + 1, .list ds, h => by
    simp only [Pl] at h ⊢
    exact fun d hd => (h d hd).up
  | 0, .bool _, h => by simp [Pl] at h
  | 0, .str _, h => by simp [Pl] at h
  | 0, .dict _, h => by simp [Pl] at h
  | _ + 1, .bool _, h => by simp [Pl] at h
  | _ + 1, .str _, h => by simp [Pl] at h
  | _ + 1, .dict _, h => by simp [Pl] at h
theorem Pl.to {k : Nat} {d : D} (h : Pl k d) : ∀ {j : Nat}, k ≤ j → Pl j d := fun {j} hj => by
  obtain ⟨i, rfl⟩ := Nat.exists_eq_add_of_le hj
  clear hj
  induction i with
  | zero => exact h
  | succ i ih => exact ih.up
theorem eqvAll_iff {xs ys : List D} (h : ∀ x ∈ xs, ∀ y ∈ ys, PyData.eqv x y = true ↔ x = y) : PyData.eqvAll xs ys = true ↔ xs = ys := by
  induction xs generalizing ys with
  | nil => cases ys <;> simp [PyData.eqvAll]
  | cons x xs ih =>
    cases ys with
    | nil => simp [PyData.eqvAll]
    | cons y ys =>
      simp only [PyData.eqvAll, Bool.and_eq_true]
      rw [h x List.mem_cons_self y List.mem_cons_self, ih fun a ha b hb => h a (List.mem_cons_of_mem _ ha) b (List.mem_cons_of_mem _ hb)]
      simp
theorem eqv_pl : ∀ {k j : Nat} {a b : D}, Pl k a → Pl j b → (PyData.eqv a b = true ↔ a = b)
  | _, _, .int i, .int j, _, _ => by simp [PyData.eqv]
  | _, _, .int i, .none, _, _ => by simp [PyData.eqv]
  | _, _, .int i, .tuple _, _, _ => by simp [PyData.eqv]
  | _, _, .int i, .list _, _, _ => by simp [PyData.eqv]
  | _, _, .none, .int j, _, _ => by simp [PyData.eqv]
  | _, _, .none, .none, _, _ => by simp [PyData.eqv]
  | _, _, .none, .tuple _, _, _ => by simp [PyData.eqv]
  | _, _, .none, .list _, _, _ => by simp [PyData.eqv]
  | _, _, .tuple _, .int j, _, _ => by simp [PyData.eqv]
  | _, _, .tuple _, .none, _, _ => by simp [PyData.eqv]
  | k + 1, j + 1, .tuple xs, .tuple ys, h, g => by
    simp only [Pl] at h g
    simp only [PyData.eqv, PyData.tuple.injEq]
    exact eqvAll_iff fun x hx y hy => eqv_pl (h x hx) (g y hy)
  | _, _, .tuple _, .list _, _, _ => by simp [PyData.eqv]
  | _, _, .list _, .int j, _, _ => by simp [PyData.eqv]
  | _, _, .list _, .none, _, _ => by simp [PyData.eqv]
  | _, _, .list _, .tuple _, _, _ => by simp [PyData.eqv]
  | k + 1, j + 1, .list xs, .list ys, h, g => by
    simp only [Pl] at h g
    simp only [PyData.eqv, PyData.list.injEq]
    exact eqvAll_iff fun x hx y hy => eqv_pl (h x hx) (g y hy)
  | 0, _, .tuple _, .tuple _, h, _ => by simp [Pl] at h
  | 0, _, .list _, .list _, h, _ => by simp [Pl] at h
  | _ + 1, 0, .tuple _, .tuple _, _, h => by simp [Pl] at h
  | _ + 1, 0, .list _, .list _, _, h => by simp [Pl] at h
  | _, j, _, .bool _, _, h => by cases j <;> simp [Pl] at h
  | _, j, _, .str _, _, h => by cases j <;> simp [Pl] at h
  | _, j, _, .dict _, _, h => by cases j <;> simp [Pl] at h
  | k, _, .bool _, _, h, _ => by cases k <;> simp [Pl] at h
  | k, _, .str _, _, h, _ => by cases k <;> simp [Pl] at h
  | k, _, .dict _, _, h, _ => by cases k <;> simp [Pl] at h
theorem lay_all2 {ds : List D} (h : ∀ d ∈ ds, d.canLay0 = true) : PyData.canLayAll0 ds = true := by
  induction ds with
  | nil => simp [PyData.canLayAll0]
  | cons d ds ih => simp [PyData.canLayAll0, h d List.mem_cons_self, ih fun e he => h e (List.mem_cons_of_mem _ he)]
theorem dep_all2 {ds : List D} {n : Nat} (h : ∀ d ∈ ds, d.depth ≤ n) : PyData.depthAll ds ≤ n := by
  induction ds with
  | nil => simp [PyData.depthAll]
  | cons d ds ih =>
    have h1 := h d List.mem_cons_self
    have h2 := ih fun e he => h e (List.mem_cons_of_mem _ he)
    simp only [PyData.depthAll]
    omega
theorem Pl.lay : ∀ {k : Nat} {d : D}, Pl k d → d.canLay0 = true ∧ d.depth ≤ k
  | _, .int _, _ => by simp [PyData.canLay0, PyData.depth]
  | _, .none, _ => by simp [PyData.canLay0, PyData.depth]
  | k + 1, .tuple ds, h => by
    simp only [Pl] at h
    have h1 := lay_all2 fun d hd => (h d hd).lay.1
    have h2 := dep_all2 fun d hd => (h d hd).lay.2
    simp only [PyData.canLay0, PyData.depth]
    exact ⟨h1, by omega⟩
  | k + 1, .list ds, h => by
    simp only [Pl] at h
    have h1 := lay_all2 fun d hd => (h d hd).lay.1
    have h2 := dep_all2 fun d hd => (h d hd).lay.2
    simp only [PyData.canLay0, PyData.depth]
    exact ⟨h1, by omega⟩
  | 0, .tuple _, h => by simp [Pl] at h
  | 0, .list _, h => by simp [Pl] at h
  | k, .bool _, h => by cases k <;> simp [Pl] at h
  | k, .str _, h => by cases k <;> simp [Pl] at h
  | k, .dict _, h => by cases k <;> simp [Pl] at h
theorem okD_of {k : Nat} {d : D} (h : Pl k d) (hk : k ≤ 40) : okD d = true := by
  obtain ⟨h1, h2⟩ := h.lay
  unfold okD
  rw [h1, Bool.true_and]
  exact decide_eq_true (by omega)
theorem okE_of {k : Nat} {d : D} (h : Pl k d) (hk : k ≤ 40) : okE d = true := by
  obtain ⟨h1, h2⟩ := h.lay
  unfold okE
  rw [h1, Bool.true_and]
  exact decide_eq_true (by omega)
theorem gEq_pl {k j : Nat} {a b : D} (ha : Pl k a) (hb : Pl j b) (hk : k ≤ 40) (hj : j ≤ 40) : ∃ x : Bool, gEq [.fz a, .fz b] = some (.val (.bool x)) ∧ gNe [.fz a, .fz b] = some (.val (.bool !x)) ∧ (x = true ↔ a = b) := by
  refine ⟨PyData.eqv a b, ?_, ?_, eqv_pl ha hb⟩
  · show (if okD a && okD b then _ else _) = _
    rw [okD_of ha hk, okD_of hb hj]
    rfl
  · show (if okD a && okD b then _ else _) = _
    rw [okD_of ha hk, okD_of hb hj]
    rfl
theorem gEq_pls {k : Nat} {a : D} (ha : Pl k a) (hk : k ≤ 40) : gEq [.fz a, .fz a] = some (.val (.bool true)) ∧ gNe [.fz a, .fz a] = some (.val (.bool false)) := by
  obtain ⟨x, h1, h2, h3⟩ := gEq_pl ha ha hk hk
  rw [h3.mpr rfl] at h1 h2
  exact ⟨h1, h2⟩
theorem pl_int {k : Nat} {i : Int} : Pl k (.int i) := by cases k <;> simp [Pl]
theorem pl_none {k : Nat} : Pl k .none := by cases k <;> simp [Pl]
theorem pl_tup {k : Nat} {ds : List D} (h : ∀ d ∈ ds, Pl k d) : Pl (k + 1) (.tuple ds) := by simpa [Pl] using h
theorem pl_lst {k : Nat} {ds : List D} (h : ∀ d ∈ ds, Pl k d) : Pl (k + 1) (.list ds) := by simpa [Pl] using h
theorem pl_ints {k : Nat} {ns : List Int} : Pl (k + 1) (.tuple (ns.map .int)) := pl_tup fun d hd => by
  obtain ⟨i, _, rfl⟩ := List.mem_map.mp hd
  exact pl_int
theorem pl_tupN {k : Nat} {l : List Nat} : Pl (k + 1) (tupN l) := pl_ints
theorem pl_code {ts : List (Int × Int)} {rows : List (List Int)} {L : List Nat} {k : Nat} : Pl (k + 2) (codeD ts rows L) := pl_tup fun d hd => by
  obtain ⟨e, _, rfl⟩ := List.mem_map.mp hd
  exact pl_tup fun d hd => by
    simp only [List.mem_cons, List.not_mem_nil, or_false] at hd
    rcases hd with rfl | rfl <;> exact pl_int
theorem pl_web {m : Int} {ts : List (Int × Int)} {k : Nat} : Pl (k + 3) (webD m ts) := pl_tup fun d hd => by
  simp only [List.mem_cons, List.not_mem_nil, or_false] at hd
  rcases hd with rfl | rfl
  · exact pl_int
  · exact pl_tup fun d hd => by
      obtain ⟨t, _, rfl⟩ := List.mem_map.mp hd
      exact pl_tup fun d hd => by
        simp only [List.mem_cons, List.not_mem_nil, or_false] at hd
        rcases hd with rfl | rfl <;> exact pl_int
end Lw
end

section
namespace Lw
open PySem DL
/-- a floor of one part -/
structure Fl (m : Int) (ts : List (Int × Int)) (rows : List (List Int)) : Prop where
  hm : 1 ≤ m ∧ m ≤ 25
  hl : ts.length ≤ 24
  ht : TiesOk m ts
  ho : OrdN m ts (2 * ts.length) rows
  h1 : (partsD m ts).length = 1
section
variable {m m2 : Int} {ts ts2 : List (Int × Int)} {rows rows2 : List (List Int)}
theorem Fl.flc (f : Fl m ts rows) : FlC (2 * ts.length) (nxF ts rows) :=
  ⟨(nx_stp f.ho f.ht).cl, fun y hy => ptn_lt hy, fun O a b c x hx z hz => conn_all f.ho f.ht f.h1 a b c hx z hz⟩
/-- the ends as they get numbers -/
def nmb (ts : List (Int × Int)) (rows : List (List Int)) (x : Nat) : List Nat := nlist ts rows x (2 * ts.length)
structure NmL (N x : Nat) (L : List Nat) : Prop where
  nd : L.Nodup
  lt : ∀ z ∈ L, z < N
  full : ∀ z, z < N → z ∈ L
  len : L.length = N
  hd : L[0]? = some x
theorem nl_hd {x : Nat} : ∀ k, (nlist ts rows x k)[0]? = some x
  | 0 => rfl
  | k + 1 => by
    show (nstep ts rows (nlist ts rows x k) k)[0]? = some x
    unfold nstep
    have ih := nl_hd (x := x) k
    cases (nlist ts rows x k)[k]? with
    | none => exact ih
    | some e => exact add1N_pre (add1N_pre ih)
theorem Fl.nmb (f : Fl m ts rows) {x : Nat} (hx : x < 2 * ts.length) : NmL (2 * ts.length) x (nmb ts rows x) := by
  have hN := nl_ok f.ho f.ht hx (2 * ts.length)
  have hcnt := nodup_len _ _ hN.nd hN.lt
  obtain ⟨hlen, full⟩ := nl_full f.ho f.ht f.h1 hx (k := 2 * ts.length) hcnt
  exact ⟨hN.nd, hN.lt, full, hlen, nl_hd _⟩
theorem NmL.pos {N x : Nat} {L : List Nat} (n : NmL N x L) {z : Nat} (hz : z < N) : posN L z < N ∧ L[posN L z]? = some z := by
  obtain ⟨k, hk⟩ := List.mem_iff_getElem?.mp (n.full z hz)
  rw [posN_eq n.nd hk]
  have := (List.getElem?_eq_some_iff.mp hk).1
  exact ⟨by rw [n.len] at this; exact this, hk⟩
/-- the renaming by two numberings -/
noncomputable def rnF (LA LB : List Nat) (e : Nat) : Nat := (LB[posN LA e]?).getD 0
theorem code_of_hom (f : Fl m ts rows) (g : Fl m2 ts2 rows2) (hN : ts2.length = ts.length) {h : Nat → Nat} (a : Hm (2 * ts.length) (nxF ts rows) (nxF ts2 rows2) h) {x : Nat} (hx : x < 2 * ts.length) :
    nmb ts2 rows2 (h x) = (nmb ts rows x).map h ∧ codeD ts2 rows2 (nmb ts2 rows2 (h x)) = codeD ts rows (nmb ts rows x) := by
  have fc := f.flc
  have gc := g.flc
  rw [hN] at gc
  have hnm : nmb ts2 rows2 (h x) = (nmb ts rows x).map h := by
    unfold Lw.nmb
    rw [nlG_eq, nlG_eq, hN]
    exact nlG_map fc gc a hx _
  refine ⟨hnm, ?_⟩
  have nA := f.nmb hx
  have nB := g.nmb (x := h x) (by rw [hN]; exact a.lt x hx)
  have pos : ∀ e, e < 2 * ts.length → posN (nmb ts2 rows2 (h x)) (h e) = posN (nmb ts rows x) e := fun e he => by
    obtain ⟨p1, p2⟩ := nA.pos he
    refine posN_eq nB.nd ?_
    rw [hnm, List.getElem?_map, p2]
    rfl
  unfold codeD
  rw [hnm, List.map_map]
  congr 1
  refine List.map_congr_left fun e he => ?_
  have he := nA.lt e he
  rw [← hnm]
  show PyData.tuple [.int ((posN (nmb ts2 rows2 (h x)) (ptn (h e)) : Nat) : Int), .int ((posN (nmb ts2 rows2 (h x)) (nxF ts2 rows2 (h e)) : Nat) : Int)] = _
  rw [← a.pt e he, ← a.fo e he, pos _ (fc.cp e he), pos _ (fc.cl e he)]
theorem hom_of_code (f : Fl m ts rows) (g : Fl m2 ts2 rows2) (hN : ts2.length = ts.length) {x y : Nat} (hx : x < 2 * ts.length) (hy : y < 2 * ts.length) (e : codeD ts rows (nmb ts rows x) = codeD ts2 rows2 (nmb ts2 rows2 y)) :
    Hm (2 * ts.length) (nxF ts rows) (nxF ts2 rows2) (rnF (nmb ts rows x) (nmb ts2 rows2 y)) ∧ rnF (nmb ts rows x) (nmb ts2 rows2 y) x = y := by
  have fc := f.flc
  have gc := g.flc
  rw [hN] at gc
  have nA := f.nmb hx
  have nB := g.nmb (x := y) (by rw [hN]; exact hy)
  rw [hN] at nB
  obtain ⟨LA, hLA⟩ : ∃ L, L = nmb ts rows x := ⟨_, rfl⟩
  obtain ⟨LB, hLB⟩ : ∃ L, L = nmb ts2 rows2 y := ⟨_, rfl⟩
  rw [← hLA, ← hLB] at e ⊢
  rw [← hLA] at nA
  rw [← hLB] at nB
  have at_ : ∀ (k a b : Nat), LA[k]? = some a → LB[k]? = some b → posN LA (ptn a) = posN LB (ptn b) ∧ posN LA (nxF ts rows a) = posN LB (nxF ts2 rows2 b) := fun k a b ha hb => by
    have e1 := congrArg (fun l : List D => l[(k : Nat)]?) (PyData.tuple.inj e)
    simp only [List.getElem?_map, ha, hb, Option.map_some, Option.some.injEq, PyData.tuple.injEq, List.cons.injEq, PyData.int.injEq, and_true] at e1
    exact ⟨by omega, by omega⟩
  have rn : ∀ a, a < 2 * ts.length → ∃ b, b < 2 * ts.length ∧ LB[posN LA a]? = some b ∧ rnF LA LB a = b := fun a ha => by
    obtain ⟨p1, p2⟩ := nA.pos ha
    have hlt : posN LA a < LB.length := by rw [nB.len]; exact p1
    refine ⟨LB[posN LA a], nB.lt _ (List.getElem_mem hlt), List.getElem?_eq_getElem hlt, ?_⟩
    unfold rnF
    rw [List.getElem?_eq_getElem hlt]
    rfl
  refine ⟨⟨fun a ha => ?_, fun a ha => ?_, fun a ha => ?_⟩, ?_⟩
  · obtain ⟨b, h1, h2, h3⟩ := rn a ha
    rw [h3]; exact h1
  · obtain ⟨b, h1, h2, h3⟩ := rn a ha
    obtain ⟨b', g1, g2, g3⟩ := rn (ptn a) (fc.cp a ha)
    rw [h3, g3]
    rw [(at_ _ a b (nA.pos ha).2 h2).1, (nB.pos (gc.cp b h1)).2] at g2
    exact (Option.some.inj g2).symm
  · obtain ⟨b, h1, h2, h3⟩ := rn a ha
    obtain ⟨b', g1, g2, g3⟩ := rn (nxF ts rows a) (fc.cl a ha)
    rw [h3, g3]
    rw [(at_ _ a b (nA.pos ha).2 h2).2, (nB.pos (gc.cl b h1)).2] at g2
    exact (Option.some.inj g2).symm
  · unfold rnF
    rw [posN_eq nA.nd nA.hd, nB.hd]
    rfl
/-- a renaming carries one end to another one -/
def Isx (ts : List (Int × Int)) (rows : List (List Int)) (ts2 : List (Int × Int)) (rows2 : List (List Int)) (x y : Nat) : Prop := ∃ h, Hm (2 * ts.length) (nxF ts rows) (nxF ts2 rows2) h ∧ h x = y
theorem isx_code (f : Fl m ts rows) (g : Fl m2 ts2 rows2) (hN : ts2.length = ts.length) {x y : Nat} (hx : x < 2 * ts.length) (hy : y < 2 * ts.length) : Isx ts rows ts2 rows2 x y ↔ codeD ts rows (nmb ts rows x) = codeD ts2 rows2 (nmb ts2 rows2 y) :=
  ⟨fun ⟨h, a, e⟩ => by rw [← e]; exact (code_of_hom f g hN a hx).2.symm, fun e => ⟨_, hom_of_code f g hN hx hy e⟩⟩
open Classical in
/-- all renamings, as told -/
noncomputable def rens (ts : List (Int × Int)) (rows : List (List Int)) (ts2 : List (Int × Int)) (rows2 : List (List Int)) : List (List Nat) :=
  ((List.range (2 * ts.length)).filter fun y => decide (Isx ts rows ts2 rows2 0 y)).map fun y => (List.range (2 * ts.length)).map (rnF (nmb ts rows 0) (nmb ts2 rows2 y))
end
end Lw
end

section
namespace Lw
open PySem DL
section
variable {m m2 : Int} {ts ts2 : List (Int × Int)} {rows rows2 : List (List Int)}
theorem afD_len : (afD ts rows).length = 2 * ts.length := by unfold afD; rw [List.length_map, List.length_range]
theorem pl_afD {k : Nat} : Pl (k + 1) (.list (afD ts rows)) := pl_lst fun d hd => by
  unfold afD at hd
  obtain ⟨e, _, rfl⟩ := List.mem_map.mp hd
  exact pl_int
noncomputable def nmZ (N : Nat) (LA LB : List Nat) (j : Nat) : List D := (List.range N).map fun e : Nat => .int (if posN LA e < j then ((rnF LA LB e : Nat) : Int) else 0)
theorem nmZ_set {N x : Nat} {LA LB : List Nat} (n : NmL N x LA) {j a b : Nat} (ha : LA[j]? = some a) (hb : LB[j]? = some b) : (nmZ N LA LB j).set a (.int (b : Int)) = nmZ N LA LB (j + 1) := by
  have haN := n.lt a (List.mem_of_getElem? ha)
  have rb : rnF LA LB a = b := by unfold rnF; rw [posN_eq n.nd ha, hb]; rfl
  apply List.ext_getElem?
  intro i
  rw [List.getElem?_set]
  unfold nmZ
  rw [List.length_map, List.length_range, List.getElem?_map, List.getElem?_map]
  by_cases ei : a = i
  · subst ei
    rw [if_pos rfl, if_pos haN, List.getElem?_range haN]
    simp [posN_eq n.nd ha, rb]
  · rw [if_neg ei]
    by_cases hi : i < N
    · rw [List.getElem?_range hi]
      obtain ⟨_, hk'⟩ := n.pos hi
      have hne : posN LA i ≠ j := fun e2 => ei (by rw [e2, ha] at hk'; exact Option.some.inj hk')
      have : (posN LA i < j + 1) ↔ (posN LA i < j) := by omega
      simp only [Option.map_some, this]
    · rw [List.getElem?_eq_none (by rw [List.length_range]; omega)]
      rfl
theorem nmZ_end {N x : Nat} {LA LB : List Nat} (n : NmL N x LA) : nmZ N LA LB N = ((List.range N).map (rnF LA LB)).map fun k : Nat => PyData.int (k : Int) := by
  unfold nmZ
  rw [List.map_map]
  refine List.map_congr_left fun e he => ?_
  have := (n.pos (List.mem_range.mp he)).1
  rw [if_pos this]
  rfl
open Classical in
noncomputable def rensK (ts : List (Int × Int)) (rows : List (List Int)) (ts2 : List (Int × Int)) (rows2 : List (List Int)) (k : Nat) : List D :=
  (((List.range k).filter fun y => decide (Isx ts rows ts2 rows2 0 y)).map fun y => (List.range (2 * ts.length)).map (rnF (nmb ts rows 0) (nmb ts2 rows2 y))).map tupN
open Classical in
theorem rensK_s {k : Nat} : rensK ts rows ts2 rows2 (k + 1) = rensK ts rows ts2 rows2 k ++ (if Isx ts rows ts2 rows2 0 k then [tupN ((List.range (2 * ts.length)).map (rnF (nmb ts rows 0) (nmb ts2 rows2 k)))] else []) := by
  unfold rensK
  rw [List.range_succ, List.filter_append, List.map_append, List.map_append]
  congr 1
  by_cases h : Isx ts rows ts2 rows2 0 k
  · rw [if_pos h, List.filter_cons_of_pos (by simpa using h)]
    rfl
  · rw [if_neg h, List.filter_cons_of_neg (by simpa using h)]
    rfl
theorem rensK_len (k : Nat) : (rensK ts rows ts2 rows2 k).length ≤ k := by
  unfold rensK
  rw [List.length_map, List.length_map]
  exact Nat.le_trans (List.length_filter_le _ _) (by rw [List.length_range]; exact Nat.le_refl _)
def ReI (A B row due : D) (F : Nat → List D) (k : Nat) (r : Ro) : Prop := ∃ x5 x6 x7 x8, r = [.frz false A, .frz false B, .frz false row, .frz false due, .own false (.lst (F k)), x5, x6, x7, x8, .non] ∧ Fr x5 ∧ Fr x6 ∧ Fr x7 ∧ Fr x8
def ReJ (A B row due : D) (F : List D) (k its : D) (Z : Nat → List D) (j : Nat) (r : Ro) : Prop := ∃ x8, r = [.frz false A, .frz false B, .frz false row, .frz false due, .own false (.lst F), .frz false k, .frz false its, .own false (.lst (Z j)), x8, .non] ∧ Fr x8
set_option maxHeartbeats 8000000 in
theorem renamings_ok (f : Fl m ts rows) (g : Fl m2 ts2 rows2) (hN : ts2.length = ts.length) (h0 : 0 < ts.length) :
    Oks sem_renamings_c35d [.fz (.list (afD ts rows)), .fz (.list (afD ts2 rows2))] fun v ys => v = .ok (.new (.lst ((rens ts rows ts2 rows2).map tupN))) ∧ ys = [.fz (.list (afD ts rows)), .fz (.list (afD ts2 rows2))] := by
  have hl := f.hl
  have lb : (lineD : Nat) = 16777216 := rfl
  obtain ⟨x, q1, q2, q3⟩ := gEq_pl (k := 1) (j := 1) (a := .list (afD ts rows)) (b := .list []) pl_afD (pl_lst fun _ h => (nomatch h)) (by omega) (by omega)
  have qx : x = false := by
    cases x with
    | false => rfl
    | true =>
      have := PyData.list.inj (q3.mp rfl)
      have h2 := congrArg List.length this
      rw [afD_len] at h2
      simp at h2
      omega
  rw [qx] at q1
  obtain ⟨_, _, e1, rfl, rfl⟩ := numbered_ok f.ho f.ht (by omega) f.h1 (x := 0) (by omega)
  have nA := f.nmb (x := 0) (by omega)
  obtain ⟨_, _, e2, rfl, rfl⟩ := coded_ok f.ho f.ht (by omega) nA.nd nA.lt nA.full nA.len
  have e1 : sem_numbered_8309 [.fz (.list (afD ts rows)), .fz (.int 0)] = some (.ok (.val (.list (natL (nmb ts rows 0)))), [.fz (.list (afD ts rows)), .fz (.int 0)]) := e1
  have isx := fun y hy => isx_code f g hN (x := 0) (y := y) (by omega) hy
  have glB : gLen [.fz (.list (afD ts2 rows2))] = some (.val (.int (2 * (ts.length : Int)))) := by rw [gLen_l, afD_len, hN]; rfl
  have k0 : (-4611686018427387904 : Int) ≤ 2 * (ts.length : Int) := by omega
  have k1 : 2 * (ts.length : Int) < (4611686018427387904 : Int) := by omega
  obtain ⟨LA, hLA⟩ : ∃ L, L = nmb ts rows 0 := ⟨_, rfl⟩
  have gN : gLen [.fz (.list (natL LA))] = some (.val (.int (2 * (ts.length : Int)))) := by rw [gLen_l, hLA]; unfold natL; rw [List.length_map, nA.len]; rfl
  have ro : rowOf (.list (natL LA)) = some (natL LA) := rfl
  have nl : (natL LA).length = 2 * ts.length := by rw [hLA]; unfold natL; rw [List.length_map, nA.len]
  have hAt : ∀ j a : Nat, LA[j]? = some a → ixP (natL LA) (j : Int) = some (.int (a : Int)) := fun j a h => ixP_nat (by unfold natL; rw [List.getElem?_map, h]; rfl)
  obtain ⟨C, hC⟩ : ∃ C, C = codeD ts rows LA := ⟨_, rfl⟩
  obtain ⟨A, hA⟩ : ∃ A, A = afD ts rows := ⟨_, rfl⟩
  obtain ⟨B, hB⟩ : ∃ B, B = afD ts2 rows2 := ⟨_, rfl⟩
  have hres : ∀ R : List D, R = (rens ts rows ts2 rows2).map tupN → rensK ts rows ts2 rows2 (2 * ts.length) = R := fun R h => by rw [h]; rfl
  obtain ⟨R, hR⟩ : ∃ R, R = (rens ts rows ts2 rows2).map tupN := ⟨_, rfl⟩
  rw [← hA, ← hLA] at e1
  rw [← hA, ← hLA, ← hC] at e2
  rw [← hA] at q1
  rw [← hB] at glB
  rw [← hA, ← hB, ← hR]
  have e3 : ∀ y, y < 2 * ts.length → sem_numbered_8309 [.fz (.list B), .fz (.int (y : Int))] = some (.ok (.val (.list (natL (nmb ts2 rows2 y)))), [.fz (.list B), .fz (.int (y : Int))]) := fun y hy => by
    obtain ⟨_, _, e, rfl, rfl⟩ := numbered_ok g.ho g.ht (by omega) g.h1 (x := y) (by omega)
    rw [hB]
    exact e
  have e4 : ∀ y, y < 2 * ts.length → sem_coded_69cd [.fz (.list B), .fz (.list (natL (nmb ts2 rows2 y)))] = some (.ok (.val (codeD ts2 rows2 (nmb ts2 rows2 y))), [.fz (.list B), .fz (.list (natL (nmb ts2 rows2 y)))]) := fun y hy => by
    have nB := g.nmb (x := y) (by omega)
    obtain ⟨_, _, e, rfl, rfl⟩ := coded_ok g.ho g.ht (by omega) nB.nd nB.lt nB.full nB.len
    rw [hB]
    exact e
  refine oks_def rfl ?_
  simp [-getElem?_pos, -List.getD_eq_getElem?_getD, -getElem?_neg, List.getElem?_cons_zero, List.getElem?_cons_succ, b_renamings_c35d, q1, e1, e2, glB, k0, k1]
  refine forS_inv (ReI (.list A) (.list B) (.list (natL LA)) C (rensK ts rows ts2 rows2)) (rng 0 (2 * (ts.length : Int))) 0 _ ?_ (fun k d r hd h => ?_) (fun r h => ?_)
  · exact ⟨.non, .non, .non, .non, rfl, .non, .non, .non, .non⟩
  · obtain ⟨rfl, hk⟩ := rng0_get hd
    rw [Nat.zero_add] at h ⊢
    obtain ⟨x5, x6, x7, x8, rfl, h5, h6, h7, h8⟩ := h
    have hk : k < 2 * ts.length := by omega
    have f3 := e3 k hk
    have f4 := e4 k hk
    have nB := g.nmb (x := k) (by omega)
    have nBl : (natL (nmb ts2 rows2 k)).length = 2 * ts.length := by unfold natL; rw [List.length_map, nB.len, hN]
    obtain ⟨y, r1, r2, r3⟩ := gEq_pl (a := codeD ts2 rows2 (nmb ts2 rows2 k)) (b := C) (k := 2) (j := 2) pl_code (hC ▸ pl_code) (by omega) (by omega)
    have yi : y = true ↔ Isx ts rows ts2 rows2 0 k := by
      rw [isx k hk, r3, hC, hLA]
      exact eq_comm
    obtain ⟨LB, hLB⟩ : ∃ L, L = nmb ts2 rows2 k := ⟨_, rfl⟩
    obtain ⟨C2, hC2⟩ : ∃ C2, C2 = codeD ts2 rows2 (nmb ts2 rows2 k) := ⟨_, rfl⟩
    rw [← hC2] at f4 r1
    rw [← hLB] at f3 f4 nB nBl
    cases y with
    | false =>
      have hno : ¬ Isx ts rows ts2 rows2 0 k := fun h => by have := yi.mpr h; cases this
      simp [-getElem?_pos, -List.getD_eq_getElem?_getD, -getElem?_neg, List.getElem?_cons_zero, List.getElem?_cons_succ, h5.pin, h6.pin, h7.pin, h8.pin, f3, f4, r1]
      have es := rensK_s (ts := ts) (rows := rows) (ts2 := ts2) (rows2 := rows2) (k := k)
      rw [if_neg hno, List.append_nil] at es
      exact ⟨_, _, _, _, by rw [es], .frz, .frz, h7, h8⟩
    | true =>
      have hyes : Isx ts rows ts2 rows2 0 k := yi.mp rfl
      simp [-getElem?_pos, -List.getD_eq_getElem?_getD, -getElem?_neg, List.getElem?_cons_zero, List.getElem?_cons_succ, h5.pin, h6.pin, h7.pin, h8.pin, f3, f4, r1, ro, anyPin]
      refine lcK_map (fun _ => .int 0) (fun d hd => ?_) (by omega) ?_
      · unfold natL at hd
        obtain ⟨k, _, rfl⟩ := List.mem_map.mp hd
        simp [-getElem?_pos, -List.getD_eq_getElem?_getD, -getElem?_neg, List.getElem?_cons_zero, List.getElem?_cons_succ]
      have ez : (natL LA).map (fun _ => PyData.int 0) = nmZ (2 * ts.length) LA LB 0 := by
        apply List.ext_getElem?
        intro i
        unfold nmZ
        rw [List.getElem?_map, List.getElem?_map]
        by_cases hi : i < 2 * ts.length
        · rw [List.getElem?_range hi, List.getElem?_eq_getElem (by omega)]
          simp
        · rw [List.getElem?_eq_none (by omega), List.getElem?_eq_none (by rw [List.length_range]; omega)]
          rfl
      rw [ez]
      simp [-getElem?_pos, -List.getD_eq_getElem?_getD, -getElem?_neg, List.getElem?_cons_zero, List.getElem?_cons_succ, h7.pin, gN, k0, k1]
      refine forS_inv (ReJ (.list A) (.list B) (.list (natL LA)) C (rensK ts rows ts2 rows2 k) (.int (k : Int)) (.list (natL LB)) (nmZ (2 * ts.length) LA LB)) (rng 0 (2 * (ts.length : Int))) 0 _ ?_ (fun j d r hd h => ?_) (fun r h => ?_)
      · exact ⟨_, rfl, h8⟩
      · obtain ⟨rfl, hj⟩ := rng0_get hd
        rw [Nat.zero_add] at h ⊢
        obtain ⟨x8, rfl, h8⟩ := h
        have hjA : j < LA.length := by rw [hLA, nA.len]; omega
        have hjB : j < LB.length := by rw [nB.len]; omega
        obtain ⟨a, ea⟩ : ∃ a, LA[j]? = some a := ⟨_, List.getElem?_eq_getElem hjA⟩
        obtain ⟨b, eb⟩ : ∃ b, LB[j]? = some b := ⟨_, List.getElem?_eq_getElem hjB⟩
        have ia := hAt j a ea
        have ib : ixP (natL LB) (j : Int) = some (.int (b : Int)) := ixP_nat (by unfold natL; rw [List.getElem?_map, eb]; rfl)
        have haN : a < 2 * ts.length := nA.lt a (hLA ▸ List.mem_of_getElem? ea)
        have zl : (nmZ (2 * ts.length) LA LB j).length = 2 * ts.length := by unfold nmZ; rw [List.length_map, List.length_range]
        have xd : ixD (2 * ts.length) (a : Int) = some a := ixD_nat haN
        have zs := nmZ_set (LB := LB) (hLA ▸ nA) ea eb
        simp [-getElem?_pos, -List.getD_eq_getElem?_getD, -getElem?_neg, List.getElem?_cons_zero, List.getElem?_cons_succ, h8.pin, ia, ib, zl, xd, zs]
        exact ⟨_, rfl, .frz⟩
      · rw [Nat.zero_add, rng0_len, show (2 * (ts.length : Int)).toNat = 2 * ts.length by omega] at h
        obtain ⟨x8, rfl, h8⟩ := h
        rw [nmZ_end (hLA ▸ nA)]
        have es := rensK_s (ts := ts) (rows := rows) (ts2 := ts2) (rows2 := rows2) (k := k)
        rw [if_pos hyes, ← hLA, ← hLB] at es
        have hlen := rensK_len (ts := ts) (rows := rows) (ts2 := ts2) (rows2 := rows2) k
        have hlt : (rensK ts rows ts2 rows2 k).length < lineD := by omega
        obtain ⟨M, hM⟩ : ∃ M, M = ((List.range (2 * ts.length)).map (rnF LA LB)).map fun k : Nat => PyData.int (k : Int) := ⟨_, rfl⟩
        have eM : tupN ((List.range (2 * ts.length)).map (rnF LA LB)) = .tuple M := by
          rw [hM]
          unfold tupN intsN
          rw [List.map_map]
          rfl
        rw [eM] at es
        rw [← hM]
        simp [-getElem?_pos, -List.getD_eq_getElem?_getD, -getElem?_neg, List.getElem?_cons_zero, List.getElem?_cons_succ, hlt]
        exact ⟨_, _, _, _, by rw [es], .frz, .frz, .lst, h8⟩
  · rw [Nat.zero_add, rng0_len, show (2 * (ts.length : Int)).toNat = 2 * ts.length by omega] at h
    obtain ⟨x5, x6, x7, x8, rfl, h5, h6, h7, h8⟩ := h
    rw [hres R hR]
    simp [-getElem?_pos, -List.getD_eq_getElem?_getD, -getElem?_neg, List.getElem?_cons_zero, List.getElem?_cons_succ]
end
end Lw
end

section
namespace Lw
open PySem DL
theorem gEq_plo {k j : Nat} {a b : List D} (ha : Pl k (.list a)) (hb : Pl j (.list b)) (hk : k ≤ 40) (hj : j ≤ 40) : ∃ x : Bool, gEq [.ow (.lst a), .fz (.list b)] = some (.val (.bool x)) ∧ gNe [.ow (.lst a), .fz (.list b)] = some (.val (.bool !x)) ∧ (x = true ↔ PyData.list a = .list b) := by
  obtain ⟨x, h1, h2, h3⟩ := gEq_pl ha hb hk hj
  exact ⟨x, h1, h2, h3⟩
section
variable {m m2 : Int} {ts ts2 : List (Int × Int)} {rows rows2 : List (List Int)}
open Classical in
noncomputable def ren (ts : List (Int × Int)) (rows : List (List Int)) (ts2 : List (Int × Int)) (rows2 : List (List Int)) : List (List Nat) :=
  if ts2.length = ts.length then (if ts.length = 0 then [[]] else rens ts rows ts2 rows2) else []
noncomputable def alkD (ts : List (Int × Int)) (rows : List (List Int)) (ts2 : List (Int × Int)) (rows2 : List (List Int)) : D := match ren ts rows ts2 rows2 with
  | [] => .none
  | l :: _ => tupN l
theorem renamings0_ok : Oks sem_renamings_c35d [.fz (.list []), .fz (.list [])] fun v ys => v = .ok (.new (.lst [.tuple []])) ∧ ys = [.fz (.list []), .fz (.list [])] := by
  obtain ⟨q1, _⟩ := gEq_pls (k := 1) (a := .list []) (pl_lst fun _ h => (nomatch h)) (by omega)
  refine oks_def rfl ?_
  simp [-getElem?_pos, -List.getD_eq_getElem?_getD, -getElem?_neg, List.getElem?_cons_zero, List.getElem?_cons_succ, b_renamings_c35d, q1]
theorem Fl.fol (f : Fl m ts rows) : sem_followers_13ce [.fz (webD m ts), .fz (orderD rows)] = some (.ok (.val (.list (afD ts rows))), [.fz (webD m ts), .fz (orderD rows)]) := by
  obtain ⟨_, _, e2, rfl, rfl⟩ := followers_ok f.ho f.ht (by have := f.hl; omega) (by have := f.hm; omega)
  exact e2
theorem afD_nil (h : ts.length = 0) : afD ts rows = [] := List.eq_nil_of_length_eq_zero (by rw [afD_len, h])
end
end Lw
end

section
namespace Lw
open PySem DL
theorem key_fun {M : List (Nat × Nat)} (nd : (M.map (·.1)).Nodup) {a b c : Nat} (h1 : (a, b) ∈ M) (h2 : (a, c) ∈ M) : b = c := by
  induction M with
  | nil => cases h1
  | cons p M ih =>
    rw [List.map_cons, List.nodup_cons] at nd
    rcases List.mem_cons.mp h1 with e1 | h1
    · rcases List.mem_cons.mp h2 with e2 | h2
      · have := e1.trans e2.symm
        exact (Prod.mk.inj this).2
      · exact (nd.1 (by rw [← e1]; exact List.mem_map.mpr ⟨_, h2, rfl⟩)).elim
    · rcases List.mem_cons.mp h2 with e2 | h2
      · exact (nd.1 (by rw [← e2]; exact List.mem_map.mpr ⟨_, h1, rfl⟩)).elim
      · exact ih nd.2 h1 h2
/-- what is known while one goes along -/
structure Car (N y : Nat) (F G : Nat → Nat) (M : List (Nat × Nat)) (Wt : List Nat) (pd : List (Nat × Nat)) : Prop where
  nd : (M.map (·.1)).Nodup
  lt : ∀ p ∈ M, p.1 < N ∧ p.2 < N
  pl : ∀ p ∈ pd, p.1 < N ∧ p.2 < N
  st : (0, y) ∈ M
  wt : ∀ e ∈ Wt, ∃ w, (e, w) ∈ M
  cl : ∀ e w, (e, w) ∈ M → e ∉ Wt → ((ptn e, ptn w) ∈ M ∨ (ptn e, ptn w) ∈ pd) ∧ ((F e, G w) ∈ M ∨ (F e, G w) ∈ pd)
  hm : ∀ h, Hm N F G h → h 0 = y → (∀ p ∈ M, h p.1 = p.2) ∧ ∀ p ∈ pd, h p.1 = p.2
section
variable {N y : Nat} {F G : Nat → Nat} {M : List (Nat × Nat)} {Wt : List Nat} {pd : List (Nat × Nat)}
theorem Car.len (c : Car N y F G M Wt pd) : M.length ≤ N := by
  have := nodup_len N _ c.nd (fun z hz => by obtain ⟨p, hp, rfl⟩ := List.mem_map.mp hz; exact (c.lt p hp).1)
  rw [List.length_map] at this
  exact this
theorem Car.done (f : FlC N F) (c : Car N y F G M [] []) : ∃ h, Hm N F G h ∧ h 0 = y ∧ ∀ z, z < N → (z, h z) ∈ M := by
  classical
  have cl : ∀ e w, (e, w) ∈ M → (ptn e, ptn w) ∈ M ∧ (F e, G w) ∈ M := fun e w h => by
    have := c.cl e w h (fun h => (nomatch h))
    simpa using this
  have all : ∀ z, z < N → ∃ w, (z, w) ∈ M := fun z hz => f.con (fun z => ∃ w, (z, w) ∈ M) (fun z ⟨w, h⟩ => (c.lt _ h).1) (fun z ⟨w, h⟩ => ⟨_, (cl z w h).1⟩) (fun z ⟨w, h⟩ => ⟨_, (cl z w h).2⟩) 0 ⟨y, c.st⟩ z hz
  have sp : ∀ z (hz : z < N), (z, if h : z < N then (all z h).choose else 0) ∈ M := fun z hz => by
    rw [dif_pos hz]
    exact (all z hz).choose_spec
  have h0 : 0 < N := (c.lt _ c.st).1
  refine ⟨fun z => if h : z < N then (all z h).choose else 0, ⟨fun z hz => (c.lt _ (sp z hz)).2, fun z hz => ?_, fun z hz => ?_⟩, ?_, sp⟩
  · exact key_fun c.nd (sp _ (f.cp z hz)) (cl _ _ (sp z hz)).1
  · exact key_fun c.nd (sp _ (f.cl z hz)) (cl _ _ (sp z hz)).2
  · exact key_fun c.nd (sp 0 h0) c.st
end
end Lw
end

section
namespace Lw
open PySem DL
section
variable {m m2 : Int} {ts ts2 : List (Int × Int)} {rows rows2 : List (List Int)}
end
end Lw
end

section
namespace Lw
open PySem DL
section
variable {m m2 : Int} {ts ts2 : List (Int × Int)} {rows rows2 : List (List Int)}
end
end Lw
end

section
namespace Lw
open PySem DL
section
variable {m m2 : Int} {ts ts2 : List (Int × Int)} {rows rows2 : List (List Int)}
end
end Lw
end

section
namespace Lw
open PySem DL
def RotQ (a b : List Int) : Prop := ∃ x y, a = x ++ y ∧ b = y ++ x
theorem RotQ.symm {a b : List Int} (h : RotQ a b) : RotQ b a := by
  obtain ⟨x, y, h1, h2⟩ := h
  exact ⟨y, x, h2, h1⟩
theorem RotQ.trans {a b c : List Int} (h : RotQ a b) (g : RotQ b c) : RotQ a c := by
  obtain ⟨x, y, rfl, rfl⟩ := h
  obtain ⟨z, w, e, rfl⟩ := g
  rcases List.append_eq_append_iff.mp e with ⟨t, e1, e2⟩ | ⟨t, e1, e2⟩
  · exact ⟨t, w ++ y, by rw [e2, List.append_assoc], by rw [e1, List.append_assoc]⟩
  · exact ⟨x ++ z, t, by rw [e1, List.append_assoc], by rw [e2, List.append_assoc]⟩
theorem RotQ.refl (a : List Int) : RotQ a a := ⟨a, [], by simp, by simp⟩
section
variable {m m' : Int} {ts ts' : List (Int × Int)} {rows rows' : List (List Int)}
end
end Lw
end

section
namespace Lw
open PySem DL
theorem one_of_marks {m : Int} {ts : List (Int × Int)} (hm : 1 ≤ m) (all : ∀ p : Nat, (p : Int) < m → mkAt (marks m ts) (p : Int) = mkAt (marks m ts) 0) : (partsD m ts).length = 1 := by
  have hml := marks_len m ts
  have e : ∀ x ∈ dsort (marks m ts), x = mkAt (marks m ts) 0 := fun x hx => by
    obtain ⟨k, hk⟩ := List.mem_iff_getElem?.mp (dsort_mem.mp hx)
    have hkl := (List.getElem?_eq_some_iff.mp hk).1
    have := all k (by omega)
    rw [← this]
    unfold mkAt
    rw [Int.toNat_natCast, List.getD_eq_getElem?_getD, hk]
    rfl
  have hp := partsD_pos (m := m) (ts := ts) hm
  unfold partsD partsI at hp ⊢
  rw [List.length_map, List.length_map] at hp ⊢
  have nd := dsort_pw (marks m ts)
  match hd : dsort (marks m ts) with
  | [] => rw [hd] at hp; simp at hp
  | [x] => rfl
  | x :: y :: r =>
    rw [hd] at e nd
    have h1 := e x List.mem_cons_self
    have h2 := e y (List.mem_cons_of_mem _ List.mem_cons_self)
    have := (List.pairwise_cons.mp nd).1 y List.mem_cons_self
    omega
/-- two maps that undo one another -/
def PmN (M : Nat) (π ρ : Nat → Nat) : Prop := ∀ x, x < M → π x < M ∧ ρ x < M ∧ ρ (π x) = x ∧ π (ρ x) = x
theorem PmN.symm {M : Nat} {π ρ : Nat → Nat} (h : PmN M π ρ) : PmN M ρ π := fun x hx => ⟨(h x hx).2.1, (h x hx).1, (h x hx).2.2.2, (h x hx).2.2.1⟩
/-- an end's other number; σ numbers ties, t turns them -/
def nuF (σ t : Nat → Nat) (e : Nat) : Nat := 2 * σ (e / 2) + (e + t (e / 2)) % 2
def nuB (σ' t : Nat → Nat) (e : Nat) : Nat := 2 * σ' (e / 2) + (e + t (σ' (e / 2))) % 2
section
variable {m : Int} {ts : List (Int × Int)} {rows : List (List Int)} {σ σ' t π ρ : Nat → Nat}
theorem nu_half (e : Nat) : nuF σ t e / 2 = σ (e / 2) := by unfold nuF; omega
theorem nu_pm {n : Nat} (hσ : PmN n σ σ') : PmN (2 * n) (nuF σ t) (nuB σ' t) := fun x hx => by
  obtain ⟨h1, h2, h3, h4⟩ := hσ (x / 2) (by omega)
  have a1 : nuF σ t x / 2 = σ (x / 2) := nu_half x
  have a2 : nuF σ t x % 2 = (x + t (x / 2)) % 2 := by unfold nuF; omega
  have b1 : nuB σ' t x / 2 = σ' (x / 2) := by unfold nuB; omega
  have b2 : nuB σ' t x % 2 = (x + t (σ' (x / 2))) % 2 := by unfold nuB; omega
  refine ⟨by omega, by omega, ?_, ?_⟩
  · have : nuB σ' t (nuF σ t x) = 2 * σ' (nuF σ t x / 2) + (nuF σ t x + t (σ' (nuF σ t x / 2))) % 2 := rfl
    rw [a1, h3] at this
    omega
  · have : nuF σ t (nuB σ' t x) = 2 * σ (nuB σ' t x / 2) + (nuB σ' t x + t (nuB σ' t x / 2)) % 2 := rfl
    rw [b1, h4] at this
    omega
theorem nu_ptn (e : Nat) : nuF σ t (ptn e) = ptn (nuF σ t e) := by
  have h := ptn_half e
  have h2 : (ptn e) % 2 = (e + 1) % 2 := by unfold ptn; split <;> omega
  have h3 : nuF σ t e % 2 = (e + t (e / 2)) % 2 := by unfold nuF; omega
  have h4 : ptn (nuF σ t e) = 2 * (nuF σ t e / 2) + (nuF σ t e + 1) % 2 := by unfold ptn; split <;> omega
  have h5 : nuF σ t (ptn e) = 2 * σ (ptn e / 2) + (ptn e + t (ptn e / 2)) % 2 := rfl
  rw [h] at h5
  rw [h4, h5, nu_half]
  omega
/-- the ties; the order -/
def rnT (σ' t π : Nat → Nat) (ts : List (Int × Int)) : List (Int × Int) := (List.range ts.length).map fun k => (((π (plc ts (nuB σ' t (2 * k))).toNat : Nat) : Int), ((π (plc ts (nuB σ' t (2 * k + 1))).toNat : Nat) : Int))
def nuI (σ t : Nat → Nat) (e : Int) : Int := ((nuF σ t e.toNat : Nat) : Int)
def rnR (σ t ρ : Nat → Nat) (M : Nat) (rows : List (List Int)) : List (List Int) := (List.range M).map fun p => begI ((rows.getD (ρ p) []).map (nuI σ t))
theorem rnT_len : (rnT σ' t π ts).length = ts.length := by unfold rnT; rw [List.length_map, List.length_range]
theorem rnT_plc {x : Nat} (hx : x < 2 * ts.length) : plc (rnT σ' t π ts) x = ((π (plc ts (nuB σ' t x)).toNat : Nat) : Int) := by
  obtain ⟨k, hk⟩ : ∃ k, k = x / 2 := ⟨_, rfl⟩
  have hg : (rnT σ' t π ts)[k]? = some (((π (plc ts (nuB σ' t (2 * k))).toNat : Nat) : Int), ((π (plc ts (nuB σ' t (2 * k + 1))).toNat : Nat) : Int)) := by
    unfold rnT
    rw [List.getElem?_map, List.getElem?_range (by omega)]
    rfl
  have := plc_tie hg
  by_cases hx2 : x % 2 = 0
  · rw [show x = 2 * k by omega]; exact this.1
  · rw [show x = 2 * k + 1 by omega]; exact this.2
theorem rnT_ok (hσ : PmN ts.length σ σ') (hπ : PmN m.toNat π ρ) (ht : TiesOk m ts) : TiesOk m (rnT σ' t π ts) := fun u hu => by
  unfold rnT at hu
  obtain ⟨k, hk, rfl⟩ := List.mem_map.mp hu
  have hk := List.mem_range.mp hk
  have n1 := ((nu_pm (t := t) hσ) (2 * k) (by omega)).2.1
  have n2 := ((nu_pm (t := t) hσ) (2 * k + 1) (by omega)).2.1
  have b1 := plc_bd ht n1
  have b2 := plc_bd ht n2
  have p1 := (hπ (plc ts (nuB σ' t (2 * k))).toNat (by omega)).1
  have p2 := (hπ (plc ts (nuB σ' t (2 * k + 1))).toNat (by omega)).1
  exact ⟨⟨by show (0 : Int) ≤ ((_ : Nat) : Int); omega, by show ((_ : Nat) : Int) < m; omega⟩, by show (0 : Int) ≤ ((_ : Nat) : Int); omega, by show ((_ : Nat) : Int) < m; omega⟩
theorem rnR_row {M p : Nat} (hp : p < M) : (rnR σ t ρ M rows)[p]? = some (begI ((rows.getD (ρ p) []).map (nuI σ t))) := by
  unfold rnR
  rw [List.getElem?_map, List.getElem?_range hp]
  rfl
theorem rnR_ord (hσ : PmN ts.length σ σ') (hπ : PmN m.toNat π ρ) (ho : OrdN m ts (2 * ts.length) rows) (ht : TiesOk m ts) : OrdN m (rnT σ' t π ts) (2 * (rnT σ' t π ts).length) (rnR σ t ρ m.toNat rows) := by
  have pm := nu_pm (t := t) hσ
  refine ⟨by unfold rnR; rw [List.length_map, List.length_range], fun p row' hp => ?_⟩
  have hpm : p < m.toNat := by
    have := (List.getElem?_eq_some_iff.mp hp).1
    unfold rnR at this
    rwa [List.length_map, List.length_range] at this
  rw [rnR_row hpm] at hp
  cases hp
  obtain ⟨_, h2, _, h4⟩ := hπ p hpm
  have hr : rows[ρ p]? = some (rows.getD (ρ p) []) := by
    rw [List.getD_eq_getElem?_getD, List.getElem?_eq_getElem (by rw [ho.len]; exact h2)]
    rfl
  have R := ho.row _ _ hr
  generalize rows.getD (ρ p) [] = row at R
  rw [rnT_len]
  refine RowN.beg ?_ fun e => ?_
  · rw [List.nodup_iff_pairwise_ne, List.pairwise_map]
    refine List.Pairwise.imp_of_mem (R := (· ≠ ·)) (fun {a b} ha hb hab h => hab ?_) (List.nodup_iff_pairwise_ne.mp R.nd)
    obtain ⟨a0, a1, _⟩ := (R.mem a).mp ha
    obtain ⟨b0, b1, _⟩ := (R.mem b).mp hb
    unfold nuI at h
    have e1 : nuF σ t a.toNat = nuF σ t b.toNat := by omega
    have e2 := congrArg (nuB σ' t) e1
    rw [(pm a.toNat (by omega)).2.2.1, (pm b.toNat (by omega)).2.2.1] at e2
    omega
  · rw [List.mem_map]
    constructor
    · rintro ⟨a, ha, rfl⟩
      obtain ⟨a0, a1, a2⟩ := (R.mem a).mp ha
      obtain ⟨n1, _, n3, _⟩ := pm a.toNat (by omega)
      unfold nuI
      rw [Int.toNat_natCast, rnT_plc n1, n3, a2]
      exact ⟨by omega, by omega, by rw [Int.toNat_natCast, h4]⟩
    · rintro ⟨e0, e1, e2⟩
      obtain ⟨_, n2, _, n4⟩ := pm e.toNat (by omega)
      rw [rnT_plc (by omega)] at e2
      have bd := plc_bd ht n2
      have h5 := (hπ (plc ts (nuB σ' t e.toNat)).toNat (by omega)).2.2.1
      have hpp : p = π (plc ts (nuB σ' t e.toNat)).toNat := by omega
      refine ⟨((nuB σ' t e.toNat : Nat) : Int), (R.mem _).mpr ⟨by omega, by omega, ?_⟩, ?_⟩
      · rw [Int.toNat_natCast, hpp, h5]
        omega
      · unfold nuI
        rw [Int.toNat_natCast, n4]
        omega
theorem rn_one (hm : 1 ≤ m) (hσ : PmN ts.length σ σ') (hπ : PmN m.toNat π ρ) (ht : TiesOk m ts) (h1 : (partsD m ts).length = 1) : (partsD m (rnT σ' t π ts)).length = 1 := by
  have pm := nu_pm (t := t) hσ
  have ht' := rnT_ok (t := t) hσ hπ ht
  -- places that hang together do so by other numbers
  have key : ∀ a b, a < m.toNat → b < m.toNat → mkAt (marks m (rnT σ' t π ts)) ((π a : Nat) : Int) = mkAt (marks m (rnT σ' t π ts)) ((π b : Nat) : Int) := fun a b ha hb =>
    mark_min ht (Q := fun a b => mkAt (marks m (rnT σ' t π ts)) ((π a : Nat) : Int) = mkAt (marks m (rnT σ' t π ts)) ((π b : Nat) : Int)) (fun _ => rfl) (fun _ _ h => h.symm) (fun _ _ _ h1 h2 => h1.trans h2) (fun k hk => by
      have tie : ∀ j, j < ts.length → mkAt (marks m (rnT σ' t π ts)) (plc (rnT σ' t π ts) (2 * j)) = mkAt (marks m (rnT σ' t π ts)) (plc (rnT σ' t π ts) (2 * j + 1)) := fun j hj => marks_tie ht' (by rw [rnT_len]; exact hj)
      have anyE : ∀ x, x < 2 * ts.length → mkAt (marks m (rnT σ' t π ts)) (plc (rnT σ' t π ts) x) = mkAt (marks m (rnT σ' t π ts)) (plc (rnT σ' t π ts) (ptn x)) := fun x hx => by
        have := tie (x / 2) (by omega)
        by_cases h2 : x % 2 = 0
        · rw [show x = 2 * (x / 2) by omega, show ptn (2 * (x / 2)) = 2 * (x / 2) + 1 by unfold ptn; split <;> omega]
          exact this
        · rw [show x = 2 * (x / 2) + 1 by omega, show ptn (2 * (x / 2) + 1) = 2 * (x / 2) by unfold ptn; split <;> omega]
          exact this.symm
      have n1 := pm (2 * k) (by omega)
      have n2 := pm (2 * k + 1) (by omega)
      have := anyE (nuF σ t (2 * k)) n1.1
      rw [← nu_ptn, show ptn (2 * k) = 2 * k + 1 by unfold ptn; split <;> omega, rnT_plc n1.1, rnT_plc n2.1, n1.2.2.1, n2.2.2.1] at this
      exact this) ha hb (marks_all ht h1 a b ha hb)
  refine one_of_marks hm fun p hp => ?_
  have p1 := hπ p (by omega)
  have p0 := hπ 0 (by omega)
  have := key (ρ p) (ρ 0) p1.2.1 p0.2.1
  rw [p1.2.2.2, p0.2.2.2] at this
  exact this
theorem Fl.rn (f : Fl m ts rows) (hσ : PmN ts.length σ σ') (hπ : PmN m.toNat π ρ) : Fl m (rnT σ' t π ts) (rnR σ t ρ m.toNat rows) :=
  ⟨f.hm, by rw [rnT_len]; exact f.hl, rnT_ok hσ hπ f.ht, rnR_ord hσ hπ f.ho f.ht, rn_one f.hm.1 hσ hπ f.ht f.h1⟩
end
end Lw
end

section
namespace Lw
open PySem DL
end Lw
end

section
namespace Lw
open PySem DL
section
variable {m : Int} {ts : List (Int × Int)} {rows : List (List Int)}
end
end Lw
end

section
namespace Lw
open PySem DL
section
open PySem.W PyProof.Rows
/-- rows of pairs of whole numbers -/
def prsD (L : List (Int × Int)) : D := .tuple (L.map fun p => .tuple [.int p.1, .int p.2])
theorem prs_alike (L M : List (Int × Int)) : alike (prsD L) (prsD M) = true := by
  show alikeAll _ _ = true
  induction L generalizing M with
  | nil => cases M <;> simp [alikeAll]
  | cons p L ih =>
    cases M with
    | nil => simp [alikeAll]
    | cons q M =>
      simp only [List.map_cons, alikeAll, alike, Bool.true_and, Bool.and_true]
      exact ih M
theorem mm_prs (L : List (List (Int × Int))) : mmOk (L.map prsD) = true := by
  unfold mmOk
  simp only [Bool.and_eq_true, List.all_eq_true]
  refine ⟨⟨fun d hd => ?_, fun d hd e he => ?_⟩, fun d hd => ?_⟩
  · obtain ⟨l, _, rfl⟩ := List.mem_map.mp hd
    refine okE_of (k := 2) (pl_tup fun d hd => ?_) (by omega)
    obtain ⟨p, _, rfl⟩ := List.mem_map.mp hd
    exact pl_tup fun d hd => by
      simp only [List.mem_cons, List.not_mem_nil, or_false] at hd
      rcases hd with rfl | rfl <;> exact pl_int
  · obtain ⟨l, _, rfl⟩ := List.mem_map.mp hd
    obtain ⟨k, _, rfl⟩ := List.mem_map.mp he
    exact prs_alike l k
  · obtain ⟨l, _, rfl⟩ := List.mem_map.mp hd
    rfl
end
section
variable {m m2 : Int} {ts ts2 : List (Int × Int)} {rows rows2 : List (List Int)}
noncomputable def codeP (ts : List (Int × Int)) (rows : List (List Int)) (x : Nat) : List (Int × Int) := (nmb ts rows x).map fun e => (((posN (nmb ts rows x) (ptn e) : Nat) : Int), ((posN (nmb ts rows x) (nxF ts rows e) : Nat) : Int))
theorem codeP_D (x : Nat) : prsD (codeP ts rows x) = codeD ts rows (nmb ts rows x) := by
  unfold prsD codeP codeD
  rw [List.map_map]
  rfl
noncomputable def codesP (ts : List (Int × Int)) (rows : List (List Int)) : List (List (Int × Int)) := (List.range (2 * ts.length)).map (codeP ts rows)
noncomputable def codeM (ts : List (Int × Int)) (rows : List (List Int)) : D := match codesP ts rows with
  | [] => .tuple []
  | x :: xs => W.minD (prsD x) (xs.map prsD)
theorem codes_min : gMinDef [.fz (.list ((codesP ts rows).map prsD)), .fz (.tuple [])] = some (.val (codeM ts rows)) := by
  unfold codeM
  cases h : codesP ts rows with
  | nil => rfl
  | cons x xs =>
    have := mm_prs (x :: xs)
    rw [List.map_cons] at this ⊢
    exact gMinDef_cons this
end
section
variable {m : Int} {ts : List (Int × Int)} {rows : List (List Int)}
end
end Lw
end

section
namespace Lw
open PySem DL
section
variable {m m2 : Int} {ts ts2 : List (Int × Int)} {rows rows2 : List (List Int)}
theorem look_oneR_ok (f : Fl m ts rows) : sem_look_one_part_304cR [.fz (webD m ts)] = some (.ok (.val .none), [.fz (webD m ts)]) := by
  obtain ⟨_, _, e0, rfl, rfl⟩ := is_one_part_ok (by have := f.hm; omega) (by have := f.hl; omega) f.ht
  rw [f.h1] at e0
  refine oks_eq (oks_def rfl ?_)
  simp [-getElem?_pos, -List.getD_eq_getElem?_getD, -getElem?_neg, List.getElem?_cons_zero, List.getElem?_cons_succ, b_look_one_part_304cR, e0]

theorem look_oneR_no (hm : 1 ≤ m ∧ m ≤ 60) (hl : ts.length ≤ 1000) (ht : TiesOk m ts) (h : (partsD m ts).length ≠ 1) : sem_look_one_part_304cR [.fz (webD m ts)] = some (.exc ⟨"Apart", none⟩, [.fz (webD m ts)]) := by
  obtain ⟨_, _, e0, rfl, rfl⟩ := is_one_part_ok hm hl ht
  rw [decide_eq_false h] at e0
  have : Oks sem_look_one_part_304cR [.fz (webD m ts)] fun v ys => v = .exc ⟨"Apart", none⟩ ∧ ys = [.fz (webD m ts)] := by
    refine oks_def rfl ?_
    simp [-getElem?_pos, -List.getD_eq_getElem?_getD, -getElem?_neg, List.getElem?_cons_zero, List.getElem?_cons_succ, b_look_one_part_304cR, e0]
  obtain ⟨_, _, e, rfl, rfl⟩ := this
  exact e
set_option maxHeartbeats 4000000 in
theorem alikeR_ok (f : Fl m ts rows) (g : Fl m2 ts2 rows2) : Oks sem_alike_4846R [.fz (webD m ts), .fz (orderD rows), .fz (webD m2 ts2), .fz (orderD rows2)] fun v ys => v = .ok (.val (alkD ts rows ts2 rows2)) ∧ ys = [.fz (webD m ts), .fz (orderD rows), .fz (webD m2 ts2), .fz (orderD rows2)] := by
  have e1 := look_oneR_ok f
  have e2 := look_oneR_ok g
  have e3 := f.fol
  have e4 := g.fol
  have gl1 : gLen [.fz (.tuple (ts.map tieD))] = some (.val (.int (ts.length : Int))) := by simp
  have gl2 : gLen [.fz (.tuple (ts2.map tieD))] = some (.val (.int (ts2.length : Int))) := by simp
  obtain ⟨O1, hO1⟩ : ∃ O, O = orderD rows := ⟨_, rfl⟩
  obtain ⟨O2, hO2⟩ : ∃ O, O = orderD rows2 := ⟨_, rfl⟩
  rw [← hO1] at e3
  rw [← hO2] at e4
  rw [← hO1, ← hO2]
  refine oks_def rfl ?_
  by_cases hN : ts2.length = ts.length
  · have gn : gNe [.fz (.int (ts.length : Int)), .fz (.int (ts2.length : Int))] = some (.val (.bool false)) := by rw [gNe_ii, hN]; simp
    by_cases h0 : ts.length = 0
    · obtain ⟨_, _, e5, rfl, rfl⟩ := renamings0_ok
      have r1 : ren ts rows ts2 rows2 = [[]] := by unfold ren; rw [if_pos hN, if_pos h0]
      have a1 : alkD ts rows ts2 rows2 = .tuple [] := by unfold alkD; rw [r1]; rfl
      obtain ⟨x, q1, q2, q3⟩ := gEq_pl (k := 2) (j := 2) (a := .list [.tuple []]) (b := .list []) (pl_lst fun d hd => by rw [List.mem_singleton.mp hd]; exact pl_tup fun _ h => (nomatch h)) (pl_lst fun _ h => (nomatch h)) (by omega) (by omega)
      have qx : x = false := by
        cases x with
        | false => rfl
        | true => have := PyData.list.inj (q3.mp rfl); cases this
      have q1' : gEq [.ow (.lst [.tuple []]), .fz (.list [])] = some (.val (.bool false)) := by rw [qx] at q1; exact q1
      rw [a1]
      simp [-getElem?_pos, -List.getD_eq_getElem?_getD, -getElem?_neg, List.getElem?_cons_zero, List.getElem?_cons_succ, b_alike_4846R, e1, e2, e3, e4, web_1, gl1, gl2, gn, -gNe_ii, afD_nil h0, afD_nil (hN.trans h0), e5, q1']
    · obtain ⟨_, _, e5, rfl, rfl⟩ := renamings_ok f g hN (by omega)
      have r1 : ren ts rows ts2 rows2 = rens ts rows ts2 rows2 := by unfold ren; rw [if_pos hN, if_neg h0]
      obtain ⟨x, q1, q2, q3⟩ := gEq_plo (k := 2) (j := 2) (a := (rens ts rows ts2 rows2).map tupN) (b := []) (pl_lst fun d hd => by
        obtain ⟨l, _, rfl⟩ := List.mem_map.mp hd
        exact pl_tupN) (pl_lst fun _ h => (nomatch h)) (by omega) (by omega)
      cases hr : rens ts rows ts2 rows2 with
      | nil =>
        have a1 : alkD ts rows ts2 rows2 = .none := by unfold alkD; rw [r1, hr]
        have qx : x = true := q3.mpr (by rw [hr]; rfl)
        rw [qx] at q1
        rw [hr] at e5 q1
        rw [a1]
        obtain ⟨Z, hZ⟩ : ∃ Z, Z = List.map tupN [] := ⟨_, rfl⟩
        rw [← hZ] at e5 q1
        simp [-getElem?_pos, -List.getD_eq_getElem?_getD, -getElem?_neg, List.getElem?_cons_zero, List.getElem?_cons_succ, b_alike_4846R, e1, e2, e3, e4, web_1, gl1, gl2, gn, -gNe_ii, e5, q1]
      | cons l L =>
        have a1 : alkD ts rows ts2 rows2 = tupN l := by unfold alkD; rw [r1, hr]
        have qx : x = false := by
          cases x with
          | false => rfl
          | true => have := PyData.list.inj (q3.mp rfl); rw [hr] at this; cases this
        rw [qx] at q1
        rw [hr] at e5 q1
        have ix : ixP ((l :: L).map tupN) 0 = some (tupN l) := ixP_nat (k := 0) rfl
        obtain ⟨Z, hZ⟩ : ∃ Z, Z = List.map tupN (l :: L) := ⟨_, rfl⟩
        rw [← hZ] at e5 q1 ix
        rw [a1]
        simp [-getElem?_pos, -List.getD_eq_getElem?_getD, -getElem?_neg, List.getElem?_cons_zero, List.getElem?_cons_succ, b_alike_4846R, e1, e2, e3, e4, web_1, gl1, gl2, gn, -gNe_ii, e5, q1, ix]
  · have gn : gNe [.fz (.int (ts.length : Int)), .fz (.int (ts2.length : Int))] = some (.val (.bool true)) := by
      have : ¬ (ts.length : Int) = ts2.length := by omega
      rw [gNe_ii]; simp [this]
    have a1 : alkD ts rows ts2 rows2 = .none := by unfold alkD ren; rw [if_neg hN]
    rw [a1]
    simp [-getElem?_pos, -List.getD_eq_getElem?_getD, -getElem?_neg, List.getElem?_cons_zero, List.getElem?_cons_succ, b_alike_4846R, e1, e2, web_1, gl1, gl2, gn, -gNe_ii]

theorem turningsR_ok (f : Fl m ts rows) : Oks sem_turnings_9f26R [.fz (webD m ts), .fz (orderD rows)] fun v ys => v = .ok (.new (.lst ((ren ts rows ts rows).map tupN))) ∧ ys = [.fz (webD m ts), .fz (orderD rows)] := by
  have e1 := look_oneR_ok f
  have e3 := f.fol
  obtain ⟨O1, hO1⟩ : ∃ O, O = orderD rows := ⟨_, rfl⟩
  rw [← hO1] at e3
  rw [← hO1]
  refine oks_def rfl ?_
  by_cases h0 : ts.length = 0
  · obtain ⟨_, _, e5, rfl, rfl⟩ := renamings0_ok
    have r1 : ren ts rows ts rows = [[]] := by unfold ren; rw [if_pos rfl, if_pos h0]
    rw [r1]
    simp [-getElem?_pos, -List.getD_eq_getElem?_getD, -getElem?_neg, List.getElem?_cons_zero, List.getElem?_cons_succ, b_turnings_9f26R, e1, e3, afD_nil h0, e5]
    rfl
  · obtain ⟨_, _, e5, rfl, rfl⟩ := renamings_ok f f rfl (by omega)
    have r1 : ren ts rows ts rows = rens ts rows ts rows := by unfold ren; rw [if_pos rfl, if_neg h0]
    rw [r1]
    simp [-getElem?_pos, -List.getD_eq_getElem?_getD, -getElem?_neg, List.getElem?_cons_zero, List.getElem?_cons_succ, b_turnings_9f26R, e1, e3, e5]

end
section
variable {m m2 : Int} {ts ts2 : List (Int × Int)} {rows rows2 : List (List Int)}
set_option maxHeartbeats 4000000 in
theorem codeR_ok (f : Fl m ts rows) : Oks sem_code_8358R [.fz (webD m ts), .fz (orderD rows)] fun v ys => v = .ok (.val (codeM ts rows)) ∧ ys = [.fz (webD m ts), .fz (orderD rows)] := by
  have hl := f.hl
  have lb : (lineD : Nat) = 16777216 := rfl
  have e1 := look_oneR_ok f
  have e2 := f.fol
  have e3 : ∀ y, y < 2 * ts.length → sem_numbered_8309 [.fz (.list (afD ts rows)), .fz (.int (y : Int))] = some (.ok (.val (.list (natL (nmb ts rows y)))), [.fz (.list (afD ts rows)), .fz (.int (y : Int))]) := fun y hy => by
    obtain ⟨_, _, e, rfl, rfl⟩ := numbered_ok f.ho f.ht (by omega) f.h1 (x := y) hy
    exact e
  have e4 : ∀ y, y < 2 * ts.length → sem_coded_69cd [.fz (.list (afD ts rows)), .fz (.list (natL (nmb ts rows y)))] = some (.ok (.val (codeD ts rows (nmb ts rows y))), [.fz (.list (afD ts rows)), .fz (.list (natL (nmb ts rows y)))]) := fun y hy => by
    have nB := f.nmb hy
    obtain ⟨_, _, e, rfl, rfl⟩ := coded_ok f.ho f.ht (by omega) nB.nd nB.lt nB.full nB.len
    exact e
  have gl : gLen [.fz (.list (afD ts rows))] = some (.val (.int (2 * (ts.length : Int)))) := by rw [gLen_l, afD_len]; rfl
  have k0 : (-4611686018427387904 : Int) ≤ 2 * (ts.length : Int) := by omega
  have k1 : 2 * (ts.length : Int) < (4611686018427387904 : Int) := by omega
  have cm := codes_min (ts := ts) (rows := rows)
  have em : (rng 0 (2 * (ts.length : Int))).map (fun d : D => match d with | .int e => codeD ts rows (nmb ts rows e.toNat) | d => d) = (codesP ts rows).map prsD := by
    unfold codesP rng
    rw [List.map_map, List.map_map, show (2 * (ts.length : Int) - 0).toNat = 2 * ts.length by omega]
    refine List.map_congr_left fun z hz => ?_
    show codeD ts rows (nmb ts rows ((0 : Int) + ((z : Nat) : Int)).toNat) = prsD (codeP ts rows z)
    rw [show ((0 : Int) + ((z : Nat) : Int)).toNat = z by omega, codeP_D]
  obtain ⟨A, hA⟩ : ∃ A, A = afD ts rows := ⟨_, rfl⟩
  obtain ⟨O1, hO1⟩ : ∃ O, O = orderD rows := ⟨_, rfl⟩
  rw [← hO1] at e2 ⊢
  rw [← hA] at e2 e3 e4 gl
  refine oks_def rfl ?_
  simp [-getElem?_pos, -List.getD_eq_getElem?_getD, -getElem?_neg, List.getElem?_cons_zero, List.getElem?_cons_succ, b_code_8358R, e1, e2, gl, k0, k1, anyPin]
  refine lcK_map (fun d : D => match d with | .int e => codeD ts rows (nmb ts rows e.toNat) | d => d) (fun d hd => ?_) (by rw [rng0_len]; omega) ?_
  · obtain ⟨j, hj⟩ := List.mem_iff_getElem?.mp hd
    obtain ⟨rfl, hjN⟩ := rng0_get hj
    have a3 := e3 j (by omega)
    have a4 := e4 j (by omega)
    simp [-getElem?_pos, -List.getD_eq_getElem?_getD, -getElem?_neg, List.getElem?_cons_zero, List.getElem?_cons_succ, a3, a4]
  · rw [em]
    simp [-getElem?_pos, -List.getD_eq_getElem?_getD, -getElem?_neg, List.getElem?_cons_zero, List.getElem?_cons_succ, cm]
end

section
variable {m m2 : Int} {ts ts2 : List (Int × Int)} {rows rows2 : List (List Int)}
theorem code_fromR_ok (hm : 1 ≤ m ∧ m ≤ 60) (ho : OrdN m ts (2 * ts.length) rows) (ht : TiesOk m ts) (hl : ts.length ≤ 1000) (h1 : (partsD m ts).length = 1) {x : Nat} (hx : x < 2 * ts.length) :
    Oks sem_code_from_7a97R [.fz (webD m ts), .fz (orderD rows), .fz (.int (x : Int))] fun v ys => v = .ok (.val (codeD ts rows (nlist ts rows x (2 * ts.length)))) ∧ ys = [.fz (webD m ts), .fz (orderD rows), .fz (.int (x : Int))] := by
  obtain ⟨_, _, e0, rfl, rfl⟩ := is_one_part_ok hm hl ht
  rw [h1] at e0
  have e1 : sem_look_one_part_304cR [.fz (webD m ts)] = some (.ok (.val .none), [.fz (webD m ts)]) := by
    refine oks_eq (oks_def rfl ?_)
    simp [-getElem?_pos, -List.getD_eq_getElem?_getD, -getElem?_neg, List.getElem?_cons_zero, List.getElem?_cons_succ, b_look_one_part_304cR, e0]
  obtain ⟨_, _, e2, rfl, rfl⟩ := followers_ok ho ht hl (by omega)
  obtain ⟨_, _, e3, rfl, rfl⟩ := numbered_ok ho ht hl h1 hx
  have hN := nl_ok ho ht hx (2 * ts.length)
  have hcnt := nodup_len _ _ hN.nd hN.lt
  obtain ⟨hlen, full⟩ := nl_full ho ht h1 hx (k := 2 * ts.length) hcnt
  obtain ⟨_, _, e4, rfl, rfl⟩ := coded_ok ho ht hl hN.nd hN.lt full hlen
  refine oks_def rfl ?_
  simp [-getElem?_pos, -List.getD_eq_getElem?_getD, -getElem?_neg, List.getElem?_cons_zero, List.getElem?_cons_succ, b_code_from_7a97R, e1, e2, e3, e4]

/-- a web that may have several parts -/
structure Wb (m : Int) (ts : List (Int × Int)) : Prop where
  hm : 1 ≤ m ∧ m ≤ 25
  hl : ts.length ≤ 24
  ht : TiesOk m ts
theorem Wb.lookR (f : Wb m ts) (h : (partsD m ts).length ≠ 1) : sem_look_one_part_304cR [.fz (webD m ts)] = some (.exc ⟨"Apart", none⟩, [.fz (webD m ts)]) := look_oneR_no (by have := f.hm; omega) (by have := f.hl; omega) f.ht h
theorem alikeR_no {O1 O2 : D} (f : Wb m ts) (g : Wb m2 ts2) (h : (partsD m ts).length ≠ 1 ∨ (partsD m2 ts2).length ≠ 1) : Oks sem_alike_4846R [.fz (webD m ts), .fz O1, .fz (webD m2 ts2), .fz O2] fun v ys => v = .exc ⟨"Apart", none⟩ ∧ ys = [.fz (webD m ts), .fz O1, .fz (webD m2 ts2), .fz O2] := by
  refine oks_def rfl ?_
  by_cases h1 : (partsD m ts).length = 1
  · have e1 : sem_look_one_part_304cR [.fz (webD m ts)] = some (.ok (.val .none), [.fz (webD m ts)]) := by
      obtain ⟨_, _, e0, rfl, rfl⟩ := is_one_part_ok (by have := f.hm; omega) (by have := f.hl; omega) f.ht
      rw [h1] at e0
      refine oks_eq (oks_def rfl ?_)
      simp [-getElem?_pos, -List.getD_eq_getElem?_getD, -getElem?_neg, List.getElem?_cons_zero, List.getElem?_cons_succ, b_look_one_part_304cR, e0]
    have e2 := g.lookR (h.resolve_left fun z => z h1)
    simp [-getElem?_pos, -List.getD_eq_getElem?_getD, -getElem?_neg, List.getElem?_cons_zero, List.getElem?_cons_succ, b_alike_4846R, e1, e2]
  · have e1 := f.lookR h1
    simp [-getElem?_pos, -List.getD_eq_getElem?_getD, -getElem?_neg, List.getElem?_cons_zero, List.getElem?_cons_succ, b_alike_4846R, e1]
theorem codeR_no {O1 : D} (f : Wb m ts) (h : (partsD m ts).length ≠ 1) : Oks sem_code_8358R [.fz (webD m ts), .fz O1] fun v ys => v = .exc ⟨"Apart", none⟩ ∧ ys = [.fz (webD m ts), .fz O1] := by
  refine oks_def rfl ?_
  have e1 := f.lookR h
  simp [-getElem?_pos, -List.getD_eq_getElem?_getD, -getElem?_neg, List.getElem?_cons_zero, List.getElem?_cons_succ, b_code_8358R, e1]
theorem turningsR_no {O1 : D} (f : Wb m ts) (h : (partsD m ts).length ≠ 1) : Oks sem_turnings_9f26R [.fz (webD m ts), .fz O1] fun v ys => v = .exc ⟨"Apart", none⟩ ∧ ys = [.fz (webD m ts), .fz O1] := by
  refine oks_def rfl ?_
  have e1 := f.lookR h
  simp [-getElem?_pos, -List.getD_eq_getElem?_getD, -getElem?_neg, List.getElem?_cons_zero, List.getElem?_cons_succ, b_turnings_9f26R, e1]
theorem code_fromR_no {O1 E1 : D} (f : Wb m ts) (h : (partsD m ts).length ≠ 1) : Oks sem_code_from_7a97R [.fz (webD m ts), .fz O1, .fz E1] fun v ys => v = .exc ⟨"Apart", none⟩ ∧ ys = [.fz (webD m ts), .fz O1, .fz E1] := by
  refine oks_def rfl ?_
  have e1 := f.lookR h
  simp [-getElem?_pos, -List.getD_eq_getElem?_getD, -getElem?_neg, List.getElem?_cons_zero, List.getElem?_cons_succ, b_code_from_7a97R, e1]
end
end Lw
end

section
namespace Lw
open PySem DL
noncomputable def tbl80 : List (Str × Sem) := [("_law_alike", sem_Lalike_7b14R), ("_law_code", sem_Lcode_e2cbR), ("_law_code_from", sem_Lcode_from_df70R), ("_law_turnings", sem_Lturnings_e7f3R)]
noncomputable def suite80 : S := (sSeq (sSet 3 (mOp gLst [(oE (mC (.bool false))), (oE (mC (.bool false))), (oE (mC (.bool false))), (oE (mC (.bool false)))])) (sSeq (sSet 3 (mOp gAdd [(oS 3), (oE (mOp gLst [(oE (mC (.bool false))), (oE (mC (.bool false))), (oE (mC (.bool false))), (oE (mC (.bool false)))]))])) (sSeq (sSet 3 (mOp gAdd [(oS 3), (oE (mOp gLst [(oE (mC (.bool false))), (oE (mC (.bool true))), (oE (mC (.bool false))), (oE (mC (.bool false)))]))])) (sSeq (sSet 3 (mOp gAdd [(oS 3), (oE (mOp gLst [(oE (mC (.bool false))), (oE (mC (.bool false))), (oE (mC (.bool false)))]))])) (sRet (mLc [4] (mOpL gRng1 [(oE (mC (.int 15)))]) (setN 4) (mTst (mOp gIx [(oS 3), (oS 4)])) (mRd 4)))))))
noncomputable def fnd80 : List D := [.bool false, .bool false, .bool false, .bool false, .bool false, .bool false, .bool false, .bool false, .bool false, .bool true, .bool false, .bool false, .bool false, .bool false, .bool false]
theorem fnd80_ix {j : Nat} (hj : j < 15) : ixP fnd80 (j : Int) = some (.bool (decide (j = 9))) := ixP_nat (by
  have : j = 0 ∨ j = 1 ∨ j = 2 ∨ j = 3 ∨ j = 4 ∨ j = 5 ∨ j = 6 ∨ j = 7 ∨ j = 8 ∨ j = 9 ∨ j = 10 ∨ j = 11 ∨ j = 12 ∨ j = 13 ∨ j = 14 := by omega
  rcases this with rfl | rfl | rfl | rfl | rfl | rfl | rfl | rfl | rfl | rfl | rfl | rfl | rfl | rfl | rfl <;> rfl)
theorem suite80_W (a b : D) : W suite80 [.frz false a, .frz false b, .non, .non, .non] fun o r => o = .ret (.new (.lst [.int 9])) ∧ ∃ x3 x4, r = [.frz false a, .frz false b, .non, x3, x4] := by
  have lb : (lineD : Nat) = 16777216 := rfl
  have l1 : gLst [.fz (.bool false), .fz (.bool false), .fz (.bool false), .fz (.bool false)] = some (.new (.lst [.bool false, .bool false, .bool false, .bool false])) := rfl
  have l2 : gLst [.fz (.bool false), .fz (.bool true), .fz (.bool false), .fz (.bool false)] = some (.new (.lst [.bool false, .bool true, .bool false, .bool false])) := rfl
  have l3 : gLst [.fz (.bool false), .fz (.bool false), .fz (.bool false)] = some (.new (.lst [.bool false, .bool false, .bool false])) := rfl
  have a1 : gAdd [.ow (.lst [.bool false, .bool false, .bool false, .bool false]), .ow (.lst [.bool false, .bool false, .bool false, .bool false])] = some (.new (.lst [.bool false, .bool false, .bool false, .bool false, .bool false, .bool false, .bool false, .bool false])) := rfl
  have a2 : gAdd [.ow (.lst [.bool false, .bool false, .bool false, .bool false, .bool false, .bool false, .bool false, .bool false]), .ow (.lst [.bool false, .bool true, .bool false, .bool false])] = some (.new (.lst [.bool false, .bool false, .bool false, .bool false, .bool false, .bool false, .bool false, .bool false, .bool false, .bool true, .bool false, .bool false])) := rfl
  have a3 : gAdd [.ow (.lst [.bool false, .bool false, .bool false, .bool false, .bool false, .bool false, .bool false, .bool false, .bool false, .bool true, .bool false, .bool false]), .ow (.lst [.bool false, .bool false, .bool false])] = some (.new (.lst fnd80)) := rfl
  obtain ⟨F, hF⟩ : ∃ F, F = fnd80 := ⟨_, rfl⟩
  have ix : ∀ j : Nat, j < 15 → ixP F (j : Int) = some (.bool (decide (j = 9))) := fun j hj => by rw [hF]; exact fnd80_ix hj
  rw [← hF] at a3
  simp [-getElem?_pos, -List.getD_eq_getElem?_getD, -getElem?_neg, List.getElem?_cons_zero, List.getElem?_cons_succ, suite80, l1, l2, l3, a1, a2, a3, anyPin, lb]
  rw [show [PyData.bool false, .bool false, .bool false, .bool false, .bool false, .bool false, .bool false, .bool false, .bool false, .bool true, .bool false, .bool false, .bool false, .bool false, .bool false] = F from hF.symm]
  refine lcK_inv (fun j acc r => acc = (if j ≤ 9 then [] else [.int 9]) ∧ r = [.frz false a, .frz false b, .non, .own false (.lst F), .non]) (acc := []) (ds := rng 0 15) (n := 0) ⟨rfl, rfl⟩ (by rw [rng0_len, List.length_nil, lb]; decide) (fun j d acc r hd h => ?_) (fun zs r h => ?_)
  · obtain ⟨rfl, hj⟩ := rng0_get hd
    rw [Nat.zero_add] at h ⊢
    obtain ⟨rfl, rfl⟩ := h
    have hj : j < 15 := by omega
    have ij := ix j hj
    by_cases h9 : j = 9
    · subst h9
      have ij : ixP F 9 = some (.bool true) := ij
      simp [-getElem?_pos, -List.getD_eq_getElem?_getD, -getElem?_neg, List.getElem?_cons_zero, List.getElem?_cons_succ, ij]
    · have q : decide (j = 9) = false := decide_eq_false h9
      rw [q] at ij
      have e : (if j + 1 ≤ 9 then ([] : List D) else [.int 9]) = if j ≤ 9 then [] else [.int 9] := by
        by_cases h : j ≤ 9
        · rw [if_pos h, if_pos (by omega)]
        · rw [if_neg h, if_neg (by omega)]
      rw [e]
      simp [-getElem?_pos, -List.getD_eq_getElem?_getD, -getElem?_neg, List.getElem?_cons_zero, List.getElem?_cons_succ, ij]
  · rw [Nat.zero_add, rng0_len] at h
    obtain ⟨rfl, rfl⟩ := h
    exact ⟨rfl, _, _, rfl⟩
theorem suite80_ok (a b : D) : ∃ x3 x4, suite80 [.frz false a, .frz false b, .non, .non, .non] = some (.ret (.new (.lst [.int 9])), [.frz false a, .frz false b, .non, x3, x4]) := by
  obtain ⟨_, _, e, rfl, x3, x4, rfl⟩ := suite80_W a b
  exact ⟨x3, x4, e⟩
/-- what is told: [9] or None -/
def dueV (b : Bool) : RV := if b then .new (.lst [.int 9]) else .val .none
theorem refusal_ok {x : Str} {f : Sem} {d : D} (hx : tbl80.lookup x = some f) (hf : ∃ v, f [.fz d] = some (.ok v, [.fz d])) : Oks sem_Lrefusal_a658R [.fz (fnD x), .fz d] fun v ys => v = .ok (dueV false) ∧ ys = [.fz (fnD x), .fz d] := by
  obtain ⟨v, e⟩ := hf
  refine oks_def rfl ?_
  have hb : b_Lrefusal_a658R = sSeq (sTryS (sDrop (mCallV 0 tbl80 [(oE (mRd 1))])) ["Apart"] 2 fun _ => suite80) (sRet (mC .none)) := rfl
  rw [hb]
  simp [-getElem?_pos, -List.getD_eq_getElem?_getD, -getElem?_neg, List.getElem?_cons_zero, List.getElem?_cons_succ, hx, e, dueV]
theorem refusal_no {x : Str} {f : Sem} {d : D} (hx : tbl80.lookup x = some f) (hf : f [.fz d] = some (.exc ⟨"Apart", none⟩, [.fz d])) : Oks sem_Lrefusal_a658R [.fz (fnD x), .fz d] fun v ys => v = .ok (dueV true) ∧ ys = [.fz (fnD x), .fz d] := by
  refine oks_def rfl ?_
  have hb : b_Lrefusal_a658R = sSeq (sTryS (sDrop (mCallV 0 tbl80 [(oE (mRd 1))])) ["Apart"] 2 fun _ => suite80) (sRet (mC .none)) := rfl
  rw [hb]
  obtain ⟨x3, x4, es⟩ := suite80_ok (fnD x) d
  obtain ⟨U, hU⟩ : ∃ U, U = suite80 := ⟨_, rfl⟩
  rw [← hU] at es ⊢
  simp [-getElem?_pos, -List.getD_eq_getElem?_getD, -getElem?_neg, List.getElem?_cons_zero, List.getElem?_cons_succ, hx, hf, dueV, W_some es]
end Lw
end

section
namespace Lw
open PySem DL
section
theorem one_part_okL {n : Nat} {p : List D} {lim : Int} (hp : Pen n p) (hn : n ≤ 60000) (h0 : 0 ≤ lim) (h24 : lim ≤ 24) : Oks sem_Lone_part_805b [.ow (.lst p), .fz (.int lim)] fun v ys => ∃ m ts p', v = .ok (.val (webD m ts)) ∧ ys = [.ow (.lst p'), .fz (.int lim)] ∧ (1 ≤ m ∧ m ≤ 25) ∧ (ts.length : Int) ≤ lim ∧ TiesOk m ts ∧ (partsD m ts).length = 1 ∧ Pen (n + 200) p' := by
  obtain ⟨_, _, e1, ct, p1, rfl, rfl, c0, c1, hp1⟩ := draw_ok hp (by omega) (m := lim + 1) (by omega)
  obtain ⟨_, _, e2, way, p2, rfl, rfl, w0, w1, hp2⟩ := draw_ok hp1 (by omega) (m := 5) (by omega)
  obtain ⟨_, _, e3, d, p3, rfl, rfl, d0, d1, hp3⟩ := draw_ok hp2 (by omega) (m := ct + 1) (by omega)
  have k0 : (-4611686018427387904 : Int) ≤ ct := by omega
  have k1 : ct < (4611686018427387904 : Int) := by omega
  have g0 : gLst [] = some (.new (.lst [])) := rfl
  have tailW : ∀ (PO : EO RV → List Rs → Prop) (m : Int), 1 ≤ m → m ≤ 25 → m ≤ ct + 1 → (∀ ts p', (ts.length : Int) ≤ lim → TiesOk m ts → (partsD m ts).length = 1 → Pen (n + 200) p' → PO (.ok (.val (webD m ts))) [.ow (.lst p'), .fz (.int lim)]) →
      W (forS (setN 6) opBody (rng 0 ct)) [.own true (.lst p3), .frz false (.int lim), .frz false (.int ct), .frz false (.int way), .frz false (.int m), .own false (.lst []), .non, .non, .non] (thenP (sRet (mOp gTup [(oE (mRd 4)), (oE (mOp gTuple [(oS 5)]))])) (retP [.ow (.lst p), .fz (.int lim)] PO)) := fun PO m h1 h2 h3 hPO => by
    refine forS_inv (OpI (n + 3) lim ct way m) (rng 0 ct) 0 _ ?_ (fun k d r hd h => ?_) (fun r h => ?_)
    · exact ⟨p3, [], .non, .non, .non, rfl, hp3, rfl, fun _ h => (nomatch h), (fun K hK _ q h1 h2 => by simp at hK; omega), .non, .non, .non⟩
    · obtain ⟨rfl, hk⟩ := rng0_get hd
      rw [Nat.zero_add] at h ⊢
      exact op_body (by omega) (by omega) ⟨w0, w1⟩ (by omega) h
    · rw [Nat.zero_add, rng0_len] at h
      obtain ⟨q, ts, x6, x7, x8, rfl, hq, hl, ht, hg, h6, h7, h8⟩ := h
      have := hPO ts q (by omega) ht (parts_one h1 ht (hg m (by omega) (by omega))) (pen_mono (by omega) hq)
      have gt : gTup [.fz (.int m), .fz (.tuple (ts.map tieD))] = some (.val (webD m ts)) := rfl
      obtain ⟨V, hV⟩ : ∃ V, V = ts.map tieD := ⟨_, rfl⟩
      rw [← hV] at gt ⊢
      have ew : webD m ts = .tuple [.int m, .tuple V] := by rw [hV]; rfl
      rw [ew] at this
      simp [-getElem?_pos, -List.getD_eq_getElem?_getD, -getElem?_neg, List.getElem?_cons_zero, List.getElem?_cons_succ]
      exact this
  have eb : b_Lone_part_805b = (sSeq (sSet 2 (mCall sem_Ldraw_de5b [(oS 0), (oE (mOp gAdd [(oS 1), (oE (mC (.int 1)))]))]))
    (sSeq (sSet 3 (mCall sem_Ldraw_de5b [(oS 0), (oE (mC (.int 5)))]))
    (sSeq (sSet 4 (mOp gMin2 [(oE (mC (.int 25))), (oE (mOp gAdd [(oE (mC (.int 1))), (oE (mCall sem_Ldraw_de5b [(oS 0), (oE (mOp gAdd [(oS 2), (oE (mC (.int 1)))]))]))]))]))
    (sSeq (sIf (mOr (mTst (mOp gEq [(oS 3), (oE (mC (.int 0)))])) (mTst (mOp gEq [(oS 3), (oE (mC (.int 2)))]))) (sSet 4 (mOp gAdd [(oE (mC (.int 1))), (oS 2)])) sNx)
    (sSeq (sIf (mTst (mOp gEq [(oS 3), (oE (mC (.int 1)))])) (sSet 4 (mOp gMax2 [(oE (mC (.int 1))), (oS 2)])) sNx)
    (sSeq (sSet 5 (mOp gLst [])) (sSeq (sFor (mOpL gRng1 [(oS 2)]) (setN 6) opBody) (sRet (mOp gTup [(oE (mRd 4)), (oE (mOp gTuple [(oS 5)]))]))))))))) := rfl
  refine oks_def rfl ?_
  rw [eb]
  have hway : way = 0 ∨ way = 1 ∨ way = 2 ∨ way = 3 ∨ way = 4 := by omega
  rcases hway with rfl | rfl | rfl | rfl | rfl
  · simp [-getElem?_pos, -List.getD_eq_getElem?_getD, -getElem?_neg, List.getElem?_cons_zero, List.getElem?_cons_succ, e1, e2, e3, g0, k0, k1]
    refine tailW _ (1 + ct) (by omega) (by omega) (by omega) ?_
    intro ts p' q1 q2 q3 q4
    exact ⟨_, ts, rfl, p', rfl, ⟨by omega, by omega⟩, q1, q2, q3, q4⟩
  · obtain ⟨w, hw, hwb⟩ : ∃ w, gMax2 [.fz (.int 1), .fz (.int ct)] = some (.val (.int w)) ∧ 1 ≤ w ∧ w ≤ 25 ∧ w ≤ ct + 1 := ⟨_, gMax2_ii, by split <;> omega, by split <;> omega, by split <;> omega⟩
    simp [-getElem?_pos, -List.getD_eq_getElem?_getD, -getElem?_neg, List.getElem?_cons_zero, List.getElem?_cons_succ, e1, e2, e3, hw, -gMax2_ii, g0, k0, k1]
    exact tailW _ _ (by omega) (by omega) (by omega) fun ts p' q1 q2 q3 q4 => ⟨_, ts, rfl, p', rfl, ⟨by omega, by omega⟩, q1, q2, q3, q4⟩
  · simp [-getElem?_pos, -List.getD_eq_getElem?_getD, -getElem?_neg, List.getElem?_cons_zero, List.getElem?_cons_succ, e1, e2, e3, g0, k0, k1]
    exact tailW _ _ (by omega) (by omega) (by omega) fun ts p' q1 q2 q3 q4 => ⟨_, ts, rfl, p', rfl, ⟨by omega, by omega⟩, q1, q2, q3, q4⟩
  · obtain ⟨w, hw, hwb⟩ : ∃ w, gMin2 [.fz (.int 25), .fz (.int (1 + d))] = some (.val (.int w)) ∧ 1 ≤ w ∧ w ≤ 25 ∧ w ≤ ct + 1 := ⟨_, gMin2_ii, by split <;> omega, by split <;> omega, by split <;> omega⟩
    simp [-getElem?_pos, -List.getD_eq_getElem?_getD, -getElem?_neg, List.getElem?_cons_zero, List.getElem?_cons_succ, e1, e2, e3, hw, -gMin2_ii, g0, k0, k1]
    exact tailW _ _ (by omega) (by omega) (by omega) fun ts p' q1 q2 q3 q4 => ⟨_, ts, rfl, p', rfl, ⟨by omega, by omega⟩, q1, q2, q3, q4⟩
  · obtain ⟨w, hw, hwb⟩ : ∃ w, gMin2 [.fz (.int 25), .fz (.int (1 + d))] = some (.val (.int w)) ∧ 1 ≤ w ∧ w ≤ 25 ∧ w ≤ ct + 1 := ⟨_, gMin2_ii, by split <;> omega, by split <;> omega, by split <;> omega⟩
    simp [-getElem?_pos, -List.getD_eq_getElem?_getD, -getElem?_neg, List.getElem?_cons_zero, List.getElem?_cons_succ, e1, e2, e3, hw, -gMin2_ii, g0, k0, k1]
    exact tailW _ _ (by omega) (by omega) (by omega) fun ts p' q1 q2 q3 q4 => ⟨_, ts, rfl, p', rfl, ⟨by omega, by omega⟩, q1, q2, q3, q4⟩
end
end Lw
end

section
namespace Lw
open PySem DL
/-- a floor told -/
structure F80 where
  m : Int
  ts : List (Int × Int)
  rows : List (List Int)
def F80.w (x : F80) : D := webD x.m x.ts
def F80.o (x : F80) : D := orderD x.rows
structure F80.ok (x : F80) : Prop where
  wb : Wb x.m x.ts
  ho : OrdN x.m x.ts (2 * x.ts.length) x.rows
def F80.sev (x : F80) : Bool := decide ((partsD x.m x.ts).length > 1)
theorem F80.ok.one {x : F80} (f : x.ok) (h : x.sev = false) : Fl x.m x.ts x.rows := by
  refine ⟨f.wb.hm, f.wb.hl, f.wb.ht, f.ho, ?_⟩
  have h1 : ¬ (partsD x.m x.ts).length > 1 := by simpa [F80.sev] using h
  have h2 : (partsD x.m x.ts).length ≠ 0 := by
    have e6 : (partsD x.m x.ts).length = (dsort (marks x.m x.ts)).length := by unfold partsD partsI; rw [List.length_map, List.length_map]
    rw [e6]
    intro hz
    have h3 : dsort (marks x.m x.ts) = [] := List.eq_nil_of_length_eq_zero hz
    have hml := marks_len x.m x.ts
    have hm := f.wb.hm
    have h4 : (marks x.m x.ts)[0]'(by omega) ∈ dsort (marks x.m x.ts) := dsort_mem.mpr (List.getElem_mem _)
    rw [h3] at h4
    cases h4
  omega
theorem F80.ok.many {x : F80} (f : x.ok) (h : x.sev = true) : (partsD x.m x.ts).length ≠ 1 := by
  have h1 : (partsD x.m x.ts).length > 1 := by simpa [F80.sev] using h
  omega
theorem ix4_3 {a b c d : D} : ixP [a, b, c, d] 3 = some d := rfl
theorem ref_alike {a b : F80} (fa : a.ok) (fb : b.ok) : Oks sem_Lrefusal_a658R [.fz (fnD "_law_alike"), .fz (.tuple [a.w, a.o, b.w, b.o])] fun v ys => v = .ok (dueV (a.sev || b.sev)) ∧ ys = [.fz (fnD "_law_alike"), .fz (.tuple [a.w, a.o, b.w, b.o])] := by
  cases h : a.sev || b.sev with
  | true =>
    refine refusal_no rfl ?_
    obtain ⟨_, _, e, rfl, rfl⟩ := alikeR_no (O1 := a.o) (O2 := b.o) fa.wb fb.wb (by
      rcases Bool.or_eq_true_iff.mp h with h | h
      · exact .inl (fa.many h)
      · exact .inr (fb.many h))
    obtain ⟨W1, hW1⟩ : ∃ C, C = a.w := ⟨_, rfl⟩
    obtain ⟨W2, hW2⟩ : ∃ C, C = b.w := ⟨_, rfl⟩
    obtain ⟨O1, hO1⟩ : ∃ C, C = a.o := ⟨_, rfl⟩
    obtain ⟨O2, hO2⟩ : ∃ C, C = b.o := ⟨_, rfl⟩
    rw [show webD a.m a.ts = a.w from rfl, show webD b.m b.ts = b.w from rfl, ← hW1, ← hW2, ← hO1, ← hO2] at e
    rw [← hW1, ← hW2, ← hO1, ← hO2]
    have : Oks sem_Lalike_7b14R [.fz (.tuple [W1, O1, W2, O2])] fun v ys => v = .exc ⟨"Apart", none⟩ ∧ ys = [.fz (.tuple [W1, O1, W2, O2])] := by
      refine oks_def rfl ?_
      simp [-getElem?_pos, -List.getD_eq_getElem?_getD, -getElem?_neg, List.getElem?_cons_zero, List.getElem?_cons_succ, b_Lalike_7b14R, e, ix4_3]
    obtain ⟨_, _, e2, rfl, rfl⟩ := this
    exact e2
  | false =>
    obtain ⟨h1, h2⟩ := Bool.or_eq_false_iff.mp h
    refine refusal_ok rfl ?_
    obtain ⟨_, _, e, rfl, rfl⟩ := alikeR_ok (fa.one h1) (fb.one h2)
    obtain ⟨W1, hW1⟩ : ∃ C, C = a.w := ⟨_, rfl⟩
    obtain ⟨W2, hW2⟩ : ∃ C, C = b.w := ⟨_, rfl⟩
    obtain ⟨O1, hO1⟩ : ∃ C, C = a.o := ⟨_, rfl⟩
    obtain ⟨O2, hO2⟩ : ∃ C, C = b.o := ⟨_, rfl⟩
    rw [show webD a.m a.ts = a.w from rfl, show webD b.m b.ts = b.w from rfl, show orderD a.rows = a.o from rfl, show orderD b.rows = b.o from rfl, ← hW1, ← hW2, ← hO1, ← hO2] at e
    rw [← hW1, ← hW2, ← hO1, ← hO2]
    obtain ⟨K, hK⟩ : ∃ C, C = alkD a.ts a.rows b.ts b.rows := ⟨_, rfl⟩
    rw [← hK] at e
    have : Oks sem_Lalike_7b14R [.fz (.tuple [W1, O1, W2, O2])] fun v ys => v = .ok (.val K) ∧ ys = [.fz (.tuple [W1, O1, W2, O2])] := by
      refine oks_def rfl ?_
      simp [-getElem?_pos, -List.getD_eq_getElem?_getD, -getElem?_neg, List.getElem?_cons_zero, List.getElem?_cons_succ, b_Lalike_7b14R, e, ix4_3]
    obtain ⟨_, _, e2, rfl, rfl⟩ := this
    exact ⟨_, e2⟩
theorem ref_code {a : F80} (fa : a.ok) : Oks sem_Lrefusal_a658R [.fz (fnD "_law_code"), .fz (.tuple [a.w, a.o])] fun v ys => v = .ok (dueV a.sev) ∧ ys = [.fz (fnD "_law_code"), .fz (.tuple [a.w, a.o])] := by
  cases h : a.sev with
  | true =>
    refine refusal_no rfl ?_
    obtain ⟨_, _, e, rfl, rfl⟩ := codeR_no (O1 := a.o) fa.wb (fa.many h)
    obtain ⟨W1, hW1⟩ : ∃ C, C = a.w := ⟨_, rfl⟩
    obtain ⟨O1, hO1⟩ : ∃ C, C = a.o := ⟨_, rfl⟩
    rw [show webD a.m a.ts = a.w from rfl, ← hW1, ← hO1] at e
    rw [← hW1, ← hO1]
    have : Oks sem_Lcode_e2cbR [.fz (.tuple [W1, O1])] fun v ys => v = .exc ⟨"Apart", none⟩ ∧ ys = [.fz (.tuple [W1, O1])] := by
      refine oks_def rfl ?_
      simp [-getElem?_pos, -List.getD_eq_getElem?_getD, -getElem?_neg, List.getElem?_cons_zero, List.getElem?_cons_succ, b_Lcode_e2cbR, e]
    obtain ⟨_, _, e2, rfl, rfl⟩ := this
    exact e2
  | false =>
    refine refusal_ok rfl ?_
    obtain ⟨_, _, e, rfl, rfl⟩ := codeR_ok (fa.one h)
    obtain ⟨W1, hW1⟩ : ∃ C, C = a.w := ⟨_, rfl⟩
    obtain ⟨O1, hO1⟩ : ∃ C, C = a.o := ⟨_, rfl⟩
    rw [show webD a.m a.ts = a.w from rfl, show orderD a.rows = a.o from rfl, ← hW1, ← hO1] at e
    rw [← hW1, ← hO1]
    obtain ⟨K, hK⟩ : ∃ C, C = codeM a.ts a.rows := ⟨_, rfl⟩
    rw [← hK] at e
    have : Oks sem_Lcode_e2cbR [.fz (.tuple [W1, O1])] fun v ys => v = .ok (.val K) ∧ ys = [.fz (.tuple [W1, O1])] := by
      refine oks_def rfl ?_
      simp [-getElem?_pos, -List.getD_eq_getElem?_getD, -getElem?_neg, List.getElem?_cons_zero, List.getElem?_cons_succ, b_Lcode_e2cbR, e]
    obtain ⟨_, _, e2, rfl, rfl⟩ := this
    exact ⟨_, e2⟩
theorem ref_turnings {a : F80} (fa : a.ok) : Oks sem_Lrefusal_a658R [.fz (fnD "_law_turnings"), .fz (.tuple [a.w, a.o])] fun v ys => v = .ok (dueV a.sev) ∧ ys = [.fz (fnD "_law_turnings"), .fz (.tuple [a.w, a.o])] := by
  cases h : a.sev with
  | true =>
    refine refusal_no rfl ?_
    obtain ⟨_, _, e, rfl, rfl⟩ := turningsR_no (O1 := a.o) fa.wb (fa.many h)
    obtain ⟨W1, hW1⟩ : ∃ C, C = a.w := ⟨_, rfl⟩
    obtain ⟨O1, hO1⟩ : ∃ C, C = a.o := ⟨_, rfl⟩
    rw [show webD a.m a.ts = a.w from rfl, ← hW1, ← hO1] at e
    rw [← hW1, ← hO1]
    have : Oks sem_Lturnings_e7f3R [.fz (.tuple [W1, O1])] fun v ys => v = .exc ⟨"Apart", none⟩ ∧ ys = [.fz (.tuple [W1, O1])] := by
      refine oks_def rfl ?_
      simp [-getElem?_pos, -List.getD_eq_getElem?_getD, -getElem?_neg, List.getElem?_cons_zero, List.getElem?_cons_succ, b_Lturnings_e7f3R, e]
    obtain ⟨_, _, e2, rfl, rfl⟩ := this
    exact e2
  | false =>
    refine refusal_ok rfl ?_
    obtain ⟨_, _, e, rfl, rfl⟩ := turningsR_ok (fa.one h)
    obtain ⟨W1, hW1⟩ : ∃ C, C = a.w := ⟨_, rfl⟩
    obtain ⟨O1, hO1⟩ : ∃ C, C = a.o := ⟨_, rfl⟩
    rw [show webD a.m a.ts = a.w from rfl, show orderD a.rows = a.o from rfl, ← hW1, ← hO1] at e
    rw [← hW1, ← hO1]
    obtain ⟨K, hK⟩ : ∃ C, C = (ren a.ts a.rows a.ts a.rows).map tupN := ⟨_, rfl⟩
    rw [← hK] at e
    have : Oks sem_Lturnings_e7f3R [.fz (.tuple [W1, O1])] fun v ys => v = .ok (.new (.lst K)) ∧ ys = [.fz (.tuple [W1, O1])] := by
      refine oks_def rfl ?_
      simp [-getElem?_pos, -List.getD_eq_getElem?_getD, -getElem?_neg, List.getElem?_cons_zero, List.getElem?_cons_succ, b_Lturnings_e7f3R, e]
    obtain ⟨_, _, e2, rfl, rfl⟩ := this
    exact ⟨_, e2⟩
theorem ref_from {a : F80} (fa : a.ok) {x : Nat} (hx : x < 2 * a.ts.length) : Oks sem_Lrefusal_a658R [.fz (fnD "_law_code_from"), .fz (.tuple [a.w, a.o, .int (x : Int)])] fun v ys => v = .ok (dueV a.sev) ∧ ys = [.fz (fnD "_law_code_from"), .fz (.tuple [a.w, a.o, .int (x : Int)])] := by
  cases h : a.sev with
  | true =>
    refine refusal_no rfl ?_
    obtain ⟨_, _, e, rfl, rfl⟩ := code_fromR_no (O1 := a.o) (E1 := .int (x : Int)) fa.wb (fa.many h)
    obtain ⟨W1, hW1⟩ : ∃ C, C = a.w := ⟨_, rfl⟩
    obtain ⟨O1, hO1⟩ : ∃ C, C = a.o := ⟨_, rfl⟩
    rw [show webD a.m a.ts = a.w from rfl, ← hW1, ← hO1] at e
    rw [← hW1, ← hO1]
    have : Oks sem_Lcode_from_df70R [.fz (.tuple [W1, O1, .int (x : Int)])] fun v ys => v = .exc ⟨"Apart", none⟩ ∧ ys = [.fz (.tuple [W1, O1, .int (x : Int)])] := by
      refine oks_def rfl ?_
      simp [-getElem?_pos, -List.getD_eq_getElem?_getD, -getElem?_neg, List.getElem?_cons_zero, List.getElem?_cons_succ, b_Lcode_from_df70R, e]
    obtain ⟨_, _, e2, rfl, rfl⟩ := this
    exact e2
  | false =>
    refine refusal_ok rfl ?_
    have f := fa.one h
    obtain ⟨_, _, e, rfl, rfl⟩ := code_fromR_ok (by have := f.hm; omega) f.ho f.ht (by have := f.hl; omega) f.h1 hx
    obtain ⟨W1, hW1⟩ : ∃ C, C = a.w := ⟨_, rfl⟩
    obtain ⟨O1, hO1⟩ : ∃ C, C = a.o := ⟨_, rfl⟩
    rw [show webD a.m a.ts = a.w from rfl, show orderD a.rows = a.o from rfl, ← hW1, ← hO1] at e
    rw [← hW1, ← hO1]
    obtain ⟨K, hK⟩ : ∃ C, C = codeD a.ts a.rows (nlist a.ts a.rows x (2 * a.ts.length)) := ⟨_, rfl⟩
    rw [← hK] at e
    have : Oks sem_Lcode_from_df70R [.fz (.tuple [W1, O1, .int (x : Int)])] fun v ys => v = .ok (.val K) ∧ ys = [.fz (.tuple [W1, O1, .int (x : Int)])] := by
      refine oks_def rfl ?_
      simp [-getElem?_pos, -List.getD_eq_getElem?_getD, -getElem?_neg, List.getElem?_cons_zero, List.getElem?_cons_succ, b_Lcode_from_df70R, e]
    obtain ⟨_, _, e2, rfl, rfl⟩ := this
    exact ⟨_, e2⟩
theorem due_ok {Ws : List F80} (hW : ∀ x ∈ Ws, F80.ok x) (hl : Ws.length ≤ 2) : Oks sem_Ldue_cbcf [.fz (.list (Ws.map F80.w))] fun v ys => v = .ok (dueV (Ws.any F80.sev)) ∧ ys = [.fz (.list (Ws.map F80.w))] := by
  have lb : (lineD : Nat) = 16777216 := rfl
  refine oks_def rfl ?_
  obtain ⟨FD, hFD⟩ : ∃ FD, FD = Ws.map F80.w := ⟨_, rfl⟩
  have fl : FD.length = Ws.length := by rw [hFD, List.length_map]
  rw [← hFD]
  simp [-getElem?_pos, -List.getD_eq_getElem?_getD, -getElem?_neg, List.getElem?_cons_zero, List.getElem?_cons_succ, b_Ldue_cbcf, anyPin]
  refine lcK_inv (fun j acc r => acc = ((Ws.take j).filter F80.sev).map F80.w ∧ r = [.frz false (.list FD), .non]) (n := 0) ⟨rfl, rfl⟩ (by rw [List.length_nil]; omega) (fun j d acc r hd h => ?_) (fun zs r h => ?_)
  · rw [Nat.zero_add] at h ⊢
    obtain ⟨rfl, rfl⟩ := h
    rw [hFD, List.getElem?_map] at hd
    obtain ⟨x, hx, rfl⟩ := Option.map_eq_some_iff.mp hd
    have f := (hW x (List.mem_of_getElem? hx)).wb
    have hm := f.hm
    have hl2 := f.hl
    obtain ⟨_, _, e1, rfl, rfl⟩ := Lparts_ok (m := x.m) (ts := x.ts) (by omega) (by omega) f.ht
    have e1 : sem_Lparts_9bff [.fz x.w] = some (.ok (.new (.lst (partsD x.m x.ts))), [.fz x.w]) := e1
    have et : ((Ws.take (j + 1)).filter F80.sev).map F80.w = ((Ws.take j).filter F80.sev).map F80.w ++ (if x.sev then [x.w] else []) := by
      rw [List.take_add_one, hx, List.filter_append, List.map_append]
      cases hs : x.sev <;> simp [hs]
    obtain ⟨P, hP⟩ : ∃ P, P = partsD x.m x.ts := ⟨_, rfl⟩
    obtain ⟨W1, hW1⟩ : ∃ C, C = x.w := ⟨_, rfl⟩
    have hs : x.sev = decide (P.length > 1) := by rw [hP]; rfl
    rw [et, hs]
    rw [← hP, ← hW1] at e1
    rw [← hW1]
    by_cases hp : P.length > 1
    · have q : (1 : Int) < (P.length : Int) := by omega
      rw [decide_eq_true hp]
      simp [-getElem?_pos, -List.getD_eq_getElem?_getD, -getElem?_neg, List.getElem?_cons_zero, List.getElem?_cons_succ, e1, q, hp]
    · have q : ¬ (1 : Int) < (P.length : Int) := by omega
      rw [decide_eq_false hp]
      simp [-getElem?_pos, -List.getD_eq_getElem?_getD, -getElem?_neg, List.getElem?_cons_zero, List.getElem?_cons_succ, e1, q, hp]
  · rw [Nat.zero_add, fl, List.take_length] at h
    obtain ⟨rfl, rfl⟩ := h
    obtain ⟨Z, hZ⟩ : ∃ Z, Z = (Ws.filter F80.sev).map F80.w := ⟨_, rfl⟩
    obtain ⟨x, _, q2, q3⟩ := gEq_pl (k := 4) (j := 4) (a := .list Z) (b := .list []) (pl_lst fun d hd => by
      rw [hZ] at hd
      obtain ⟨w, _, rfl⟩ := List.mem_map.mp hd
      exact pl_web) (pl_lst fun _ h => (nomatch h)) (by omega) (by omega)
    have ha : Ws.any F80.sev = !x := by
      cases hx : x with
      | true =>
        have h1 := PyData.list.inj (q3.mp hx)
        rw [hZ, List.map_eq_nil_iff, List.filter_eq_nil_iff] at h1
        rw [Bool.not_true, List.any_eq_false]
        exact h1
      | false =>
        rw [Bool.not_false, List.any_eq_true]
        apply Classical.byContradiction
        intro hn
        have h1 : Z = [] := by
          rw [hZ, List.map_eq_nil_iff, List.filter_eq_nil_iff]
          intro w hw hs
          exact hn ⟨w, hw, hs⟩
        have := q3.mpr (by rw [h1])
        rw [hx] at this
        cases this
    rw [ha, ← hZ]
    cases x with
    | true => simp [-getElem?_pos, -List.getD_eq_getElem?_getD, -getElem?_neg, List.getElem?_cons_zero, List.getElem?_cons_succ, q2, dueV]
    | false => simp [-getElem?_pos, -List.getD_eq_getElem?_getD, -getElem?_neg, List.getElem?_cons_zero, List.getElem?_cons_succ, q2, dueV]
def dueD (b : Bool) : D := if b then .list [.int 9] else .none
theorem dueV_data (b : Bool) : (dueV b).data = some (dueD b) := by cases b <;> rfl
theorem gNe_due (b : Bool) : gNe [.fz (dueD b), .fz (dueD b)] = some (.val (.bool false)) := by
  cases b with
  | true => exact (gEq_pls (k := 2) (a := .list [.int 9]) (pl_lst fun d hd => by rw [List.mem_singleton.mp hd]; exact pl_int) (by omega)).2
  | false => exact (gEq_pls (k := 2) (a := .none) pl_none (by omega)).2
theorem gNe_due2 : gNe [.fz (.list [.int 9]), .ow (.lst [.int 9])] = some (.val (.bool false)) := gNe_due true
theorem gNe_due0 : gNe [.fz .none, .fz .none] = some (.val (.bool false)) := gNe_due false
noncomputable def in80 : S := (sSeq (sSet 11 (mCall sem_Ldraw_de5b [(oS 1), (oE (mOp gMul [(oE (mC (.int 2))), (oE (mOp gLen [(oE (mOp gIx [(oE (mOp gIx [(oS 2), (oS 4)])), (oE (mC (.int 1)))]))]))]))]))
    (sIf (mTst (mOp gNe [(oE (mCall sem_Lrefusal_a658R [(oE (mC (fnD "_law_code_from"))), (oE (mOp gTup [(oE (mOp gIx [(oS 2), (oS 4)])), (oE (mOp gIx [(oS 3), (oS 4)])), (oE (mRd 11))]))])), (oS 8)])) (sRet (mC (.bool false))) sNx))
noncomputable def mid80 : S := (sSeq (sSet 8 (mCall sem_Ldue_cbcf [(oE (mOp gLst [(oE (mOp gIx [(oS 2), (oS 4)]))]))]))
    (sSeq (sIf (mTst (mOp gNe [(oE (mCall sem_Lrefusal_a658R [(oE (mC (fnD "_law_code"))), (oE (mOp gTup [(oE (mOp gIx [(oS 2), (oS 4)])), (oE (mOp gIx [(oS 3), (oS 4)]))]))])), (oS 8)])) (sRet (mC (.bool false))) sNx)
    (sSeq (sIf (mTst (mOp gNe [(oE (mCall sem_Lrefusal_a658R [(oE (mC (fnD "_law_turnings"))), (oE (mOp gTup [(oE (mOp gIx [(oS 2), (oS 4)])), (oE (mOp gIx [(oS 3), (oS 4)]))]))])), (oS 8)])) (sRet (mC (.bool false))) sNx)
    (sFor (mOpL gRng1 [(oE (mOp gMul [(oE (mC (.int 4))), (oE (mOp gInt [(oE (mOp gGt [(oE (mOp gLen [(oE (mOp gIx [(oE (mOp gIx [(oS 2), (oS 4)])), (oE (mC (.int 1)))]))])), (oE (mC (.int 0)))]))]))]))]) (setN 9) in80))))
noncomputable def first80 : S := (sSeq (sSet 7 (mOp gTup [(oE (mOp gIx [(oS 2), (oS 5)])), (oE (mOp gIx [(oS 3), (oS 5)])), (oE (mOp gIx [(oS 2), (oS 6)])), (oE (mOp gIx [(oS 3), (oS 6)]))]))
    (sIf (mTst (mOp gNe [(oE (mCall sem_Lrefusal_a658R [(oE (mC (fnD "_law_alike"))), (oS 7)])), (oE (mCall sem_Ldue_cbcf [(oE (mOp gLst [(oE (mOp gIx [(oS 2), (oS 5)])), (oE (mOp gIx [(oS 2), (oS 6)]))]))]))])) (sRet (mC (.bool false))) sNx))
noncomputable def tail80 : S := (sSeq (sFor (mRow (mOp gLst [(oE (mOp gTup [(oE (mC (.int 0))), (oE (mC (.int 1)))])), (oE (mOp gTup [(oE (mC (.int 1))), (oE (mC (.int 0)))])), (oE (mOp gTup [(oE (mC (.int 0))), (oE (mC (.int 0)))]))])) (setT [(setN 5), (setN 6)]) first80)
    (sSeq (sFor (mOpL gRng1 [(oE (mC (.int 2)))]) (setN 4) mid80)
    (sRet (mC (.bool true)))))
/-- the slot that holds what is due -/
def dueS (c : Bool) : Sl := if c then .own false (.lst [.int 9]) else .frz false .none
theorem dueS_fr (c : Bool) : Fr (dueS c) := by
  cases c
  · exact .frz
  · exact .lst
def V80 (s0 s2 s3 s4 s5 s6 s7 s8 : Sl) (n : Nat) (k : Nat) (r : Ro) : Prop := ∃ q x9 x11, r = [s0, .own false (.lst q), s2, s3, s4, s5, s6, s7, s8, x9, .non, x11] ∧ Pen (n + k) q ∧ Fr x9 ∧ Fr x11
set_option maxHeartbeats 4000000 in
theorem in80_ok {s0 s5 s6 s7 : Sl} (h0 : ∀ i, alB i s0 = true) (h5 : Fr s5) (h6 : Fr s6) (h7 : Fr s7) {n i : Nat} {Fs : List F80} {a : F80} {ct : Int} (hF : ∀ x ∈ Fs, F80.ok x) (ha : Fs[i]? = some a) (hn : n ≤ 100000) (hct : ct = 0 ∨ (ct = 4 ∧ 0 < a.ts.length)) {q : List D} (hq : Pen n q) {x9 x11 : Sl} (h9 : Fr x9) (h11 : Fr x11) {Q : SO → Ro → Prop}
    (hQ : ∀ r, V80 s0 (.frz false (.list (Fs.map F80.w))) (.own false (.lst (Fs.map F80.o))) (.frz false (.int (i : Int))) s5 s6 s7 (dueS a.sev) n ct.toNat r → Q .nx r) :
    W (forS (setN 9) in80 (rng 0 ct)) [s0, .own false (.lst q), .frz false (.list (Fs.map F80.w)), .own false (.lst (Fs.map F80.o)), .frz false (.int (i : Int)), s5, s6, s7, dueS a.sev, x9, .non, x11] Q := by
  have fa := hF a (List.mem_of_getElem? ha)
  obtain ⟨WD, hWD⟩ : ∃ C, C = Fs.map F80.w := ⟨_, rfl⟩
  obtain ⟨OD, hOD⟩ : ∃ C, C = Fs.map F80.o := ⟨_, rfl⟩
  have i1 : ixP WD (i : Int) = some a.w := ixP_nat (by rw [hWD, List.getElem?_map, ha]; rfl)
  have i2 : ixP OD (i : Int) = some a.o := ixP_nat (by rw [hOD, List.getElem?_map, ha]; rfl)
  rw [← hWD, ← hOD] at hQ ⊢
  refine forS_inv (V80 s0 (.frz false (.list WD)) (.own false (.lst OD)) (.frz false (.int (i : Int))) s5 s6 s7 (dueS a.sev) n) (rng 0 ct) 0 _ ⟨q, x9, x11, rfl, hq, h9, h11⟩ (fun j d r hd h => ?_) (fun r h => ?_)
  · obtain ⟨rfl, hj⟩ := rng0_get hd
    rw [Nat.zero_add] at h ⊢
    obtain ⟨q, x9, x11, rfl, hq, h9, h11⟩ := h
    have hpos : 0 < a.ts.length := by
      rcases hct with h | h
      · omega
      · exact h.2
    have hl24 := fa.wb.hl
    obtain ⟨_, _, e1, c, q1, rfl, rfl, c0, c1, hq1⟩ := draw_ok hq (by omega) (m := 2 * (a.ts.length : Int)) (by omega)
    obtain ⟨c, rfl⟩ := Int.eq_ofNat_of_zero_le c0
    obtain ⟨_, _, e2, rfl, rfl⟩ := ref_from fa (x := c) (by omega)
    have sm : DL.SmM 2 (a.ts.length : Int) := smM_of (by omega) (by omega)
    have w1 : gIx [.fz a.w, .fz (.int 1)] = some (.val (.tuple (a.ts.map tieD))) := web_1
    have gt : ∀ x y z : D, gTup [.fz x, .fz y, .fz z] = some (.val (.tuple [x, y, z])) := fun _ _ _ => rfl
    obtain ⟨N, hN⟩ : ∃ N : Int, N = (a.ts.length : Int) := ⟨_, rfl⟩
    have gl : gLen [.fz (.tuple (a.ts.map tieD))] = some (.val (.int N)) := by rw [hN]; simp
    obtain ⟨TS, hTS⟩ : ∃ C, C = a.ts.map tieD := ⟨_, rfl⟩
    rw [← hTS] at w1 gl
    rw [← hN] at e1 sm
    obtain ⟨W1, hW1⟩ : ∃ C, C = a.w := ⟨_, rfl⟩
    obtain ⟨O1, hO1⟩ : ∃ C, C = a.o := ⟨_, rfl⟩
    rw [← hW1] at i1 e2 w1
    rw [← hO1] at i2 e2
    have nx : V80 s0 (.frz false (.list WD)) (.own false (.lst OD)) (.frz false (.int (i : Int))) s5 s6 s7 (dueS a.sev) n (j + 1) [s0, .own false (.lst q1), .frz false (.list WD), .own false (.lst OD), .frz false (.int (i : Int)), s5, s6, s7, dueS a.sev, .frz false (.int (j : Int)), .non, .frz false (.int (c : Int))] := ⟨q1, _, _, rfl, hq1, .frz, .frz⟩
    cases hs : a.sev with
    | true =>
      rw [hs] at nx e2
      simp [-getElem?_pos, -List.getD_eq_getElem?_getD, -getElem?_neg, List.getElem?_cons_zero, List.getElem?_cons_succ, in80, h0, h5.al, h6.al, h7.al, h9.pin, h9.al, h11.pin, h11.al, dueS, i1, i2, w1, gl, sm, e1, gt, e2, dueV, gNe_due2]
      exact nx
    | false =>
      rw [hs] at nx e2
      simp [-getElem?_pos, -List.getD_eq_getElem?_getD, -getElem?_neg, List.getElem?_cons_zero, List.getElem?_cons_succ, in80, h0, h5.al, h6.al, h7.al, h9.pin, h9.al, h11.pin, h11.al, dueS, i1, i2, w1, gl, sm, e1, gt, e2, dueV, gNe_due0]
      exact nx
  · rw [Nat.zero_add, rng0_len] at h
    exact hQ r h
def U80 (s0 s2 s3 s5 s6 s7 : Sl) (n : Nat) (k : Nat) (r : Ro) : Prop := ∃ q x4 x8 x9 x11, r = [s0, .own false (.lst q), s2, s3, x4, s5, s6, s7, x8, x9, .non, x11] ∧ Pen (n + 4 * k) q ∧ Fr x4 ∧ Fr x8 ∧ Fr x9 ∧ Fr x11
set_option maxHeartbeats 8000000 in
theorem mid80_ok {s0 s5 s6 s7 : Sl} (h0 : ∀ i, alB i s0 = true) (h5 : Fr s5) (h6 : Fr s6) (h7 : Fr s7) {n i : Nat} {Fs : List F80} {a : F80} (hF : ∀ x ∈ Fs, F80.ok x) (ha : Fs[i]? = some a) (hn : n ≤ 100000) {q : List D} (hq : Pen n q) {x8 x9 x11 : Sl} (h8 : Fr x8) (h9 : Fr x9) (h11 : Fr x11) {Q : SO → Ro → Prop}
    (hQ : ∀ r, (∃ q x8 x9 x11, r = [s0, .own false (.lst q), .frz false (.list (Fs.map F80.w)), .own false (.lst (Fs.map F80.o)), .frz false (.int (i : Int)), s5, s6, s7, x8, x9, .non, x11] ∧ Pen (n + 4) q ∧ Fr x8 ∧ Fr x9 ∧ Fr x11) → Q .nx r) :
    W mid80 [s0, .own false (.lst q), .frz false (.list (Fs.map F80.w)), .own false (.lst (Fs.map F80.o)), .frz false (.int (i : Int)), s5, s6, s7, x8, x9, .non, x11] Q := by
  have fa := hF a (List.mem_of_getElem? ha)
  have hl24 := fa.wb.hl
  obtain ⟨ct, hc, hct⟩ : ∃ ct : Int, (4 * (if decide ((0 : Int) < (a.ts.length : Int)) = true then 1 else 0) : Int) = ct ∧ (ct = 0 ∨ (ct = 4 ∧ 0 < a.ts.length)) := by
    by_cases h : 0 < a.ts.length
    · exact ⟨4, by rw [decide_eq_true (by omega)]; rfl, .inr ⟨rfl, h⟩⟩
    · exact ⟨0, by rw [decide_eq_false (by omega)]; rfl, .inl rfl⟩
  have tail := fun (q : List D) (hq : Pen n q) => in80_ok (s0 := s0) h0 h5 h6 h7 hF ha hn hct hq h9 h11 (Q := Q) fun r ⟨q2, y9, y11, e, p1, p2, p3⟩ => hQ r ⟨q2, dueS a.sev, y9, y11, e, pen_mono (by rcases hct with h | h <;> omega) p1, dueS_fr _, p2, p3⟩
  have t2 := tail q hq
  obtain ⟨_, _, e1, rfl, rfl⟩ := due_ok (Ws := [a]) (fun x hx => by rw [List.mem_singleton.mp hx]; exact fa) (by simp)
  obtain ⟨_, _, e2, rfl, rfl⟩ := ref_code fa
  obtain ⟨_, _, e3, rfl, rfl⟩ := ref_turnings fa
  have e1 : sem_Ldue_cbcf [.fz (.list [a.w])] = some (.ok (dueV a.sev), [.fz (.list [a.w])]) := by
    have : [a].any F80.sev = a.sev := by simp
    rw [this] at e1
    exact e1
  obtain ⟨WD, hWD⟩ : ∃ C, C = Fs.map F80.w := ⟨_, rfl⟩
  obtain ⟨OD, hOD⟩ : ∃ C, C = Fs.map F80.o := ⟨_, rfl⟩
  have i1 : ixP WD (i : Int) = some a.w := ixP_nat (by rw [hWD, List.getElem?_map, ha]; rfl)
  have i2 : ixP OD (i : Int) = some a.o := ixP_nat (by rw [hOD, List.getElem?_map, ha]; rfl)
  rw [← hWD, ← hOD] at t2 ⊢
  clear hQ tail
  have w1 : gIx [.fz a.w, .fz (.int 1)] = some (.val (.tuple (a.ts.map tieD))) := web_1
  have gt : ∀ x y : D, gTup [.fz x, .fz y] = some (.val (.tuple [x, y])) := fun _ _ => rfl
  have gs1 : ∀ x : D, gLst [.fz x] = some (.new (.lst [x])) := fun _ => rfl
  obtain ⟨N, hN⟩ : ∃ N : Int, N = (a.ts.length : Int) := ⟨_, rfl⟩
  have gl : gLen [.fz (.tuple (a.ts.map tieD))] = some (.val (.int N)) := by rw [hN]; simp
  obtain ⟨TS, hTS⟩ : ∃ C, C = a.ts.map tieD := ⟨_, rfl⟩
  rw [← hTS] at w1 gl
  rw [← hN] at hc
  have gg : gGt [.fz (.int N), .fz (.int 0)] = some (.val (.bool (decide (0 < N)))) := gGt_ii
  have gm : gMul [.fz (.int 4), .fz (.int (if decide (0 < N) = true then 1 else 0))] = some (.val (.int ct)) := by
    rw [← hc]
    by_cases h : 0 < N
    · rw [decide_eq_true h]; rfl
    · rw [decide_eq_false h]; rfl
  have gi : gInt [.fz (.bool (decide (0 < N)))] = some (.val (.int (if decide (0 < N) = true then 1 else 0))) := rfl
  obtain ⟨B, hB⟩ : ∃ B, B = decide (0 < N) := ⟨_, rfl⟩
  obtain ⟨J, hJ⟩ : ∃ J : Int, J = (if B = true then 1 else 0) := ⟨_, rfl⟩
  rw [← hB] at gg gm gi
  rw [← hJ] at gm gi
  have k0 : (-4611686018427387904 : Int) ≤ ct := by rcases hct with h | h <;> omega
  have k1 : ct < (4611686018427387904 : Int) := by rcases hct with h | h <;> omega
  obtain ⟨W1, hW1⟩ : ∃ C, C = a.w := ⟨_, rfl⟩
  obtain ⟨O1, hO1⟩ : ∃ C, C = a.o := ⟨_, rfl⟩
  rw [← hW1] at i1 e1 e2 e3 w1
  rw [← hO1] at i2 e2 e3
  cases hs : a.sev with
  | true =>
    rw [hs] at t2 e1 e2 e3
    unfold dueS at t2
    rw [if_pos rfl] at t2
    obtain ⟨I8, hI⟩ : ∃ I, I = in80 := ⟨_, rfl⟩
    rw [← hI] at t2
    simp [-getElem?_pos, -List.getD_eq_getElem?_getD, -getElem?_neg, List.getElem?_cons_zero, List.getElem?_cons_succ, mid80, ← hI, h0, h5.al, h6.al, h7.al, h8.pin, h8.al, h9.pin, h9.al, h11.pin, h11.al, i1, i2, w1, gl, gg, gi, gm, -gInt_b, -gGt_ii, e1, e2, e3, gt, gs1, dueV, gNe_due2, k0, k1]
    exact t2
  | false =>
    rw [hs] at t2 e1 e2 e3
    unfold dueS at t2
    rw [if_neg (by decide)] at t2
    obtain ⟨I8, hI⟩ : ∃ I, I = in80 := ⟨_, rfl⟩
    rw [← hI] at t2
    simp [-getElem?_pos, -List.getD_eq_getElem?_getD, -getElem?_neg, List.getElem?_cons_zero, List.getElem?_cons_succ, mid80, ← hI, h0, h5.al, h6.al, h7.al, h8.pin, h8.al, h9.pin, h9.al, h11.pin, h11.al, i1, i2, w1, gl, gg, gi, gm, -gInt_b, -gGt_ii, e1, e2, e3, gt, gs1, dueV, gNe_due0, k0, k1]
    exact t2
def T80 (s0 s1 s2 s3 : Sl) (k : Nat) (r : Ro) : Prop := ∃ x5 x6 x7, r = [s0, s1, s2, s3, .non, x5, x6, x7, .non, .non, .non, .non] ∧ Fr x5 ∧ Fr x6 ∧ Fr x7
theorem prs80 {j : Nat} {d : D} (h : ([.tuple [.int 0, .int 1], .tuple [.int 1, .int 0], .tuple [.int 0, .int 0]] : List D)[j]? = some d) : ∃ a b : Nat, a < 2 ∧ b < 2 ∧ d = .tuple [.int (a : Int), .int (b : Int)] := by
  match j, h with
  | 0, h => cases h; exact ⟨0, 1, by omega, by omega, rfl⟩
  | 1, h => cases h; exact ⟨1, 0, by omega, by omega, rfl⟩
  | 2, h => cases h; exact ⟨0, 0, by omega, by omega, rfl⟩
  | j + 3, h => cases h
set_option maxHeartbeats 8000000 in
theorem tail80_ok {S : D} {n : Nat} {q : List D} {Fs : List F80} (hq : Pen n q) (hn : n ≤ 90000) (hl : Fs.length = 2) (hF : ∀ x ∈ Fs, F80.ok x) :
    W tail80 [.frz false S, .own false (.lst q), .frz false (.list (Fs.map F80.w)), .own false (.lst (Fs.map F80.o)), .non, .non, .non, .non, .non, .non, .non, .non] (retP [.fz S] fun v ys => v = .ok (.val (.bool true)) ∧ ys.length = 1) := by
  have lb : (lineD : Nat) = 16777216 := rfl
  obtain ⟨WD, hWD⟩ : ∃ C, C = Fs.map F80.w := ⟨_, rfl⟩
  obtain ⟨OD, hOD⟩ : ∃ C, C = Fs.map F80.o := ⟨_, rfl⟩
  have g3 : ∀ x y z : D, gLst [.fz x, .fz y, .fz z] = some (.new (.lst [x, y, z])) := fun _ _ _ => rfl
  have gt2 : ∀ x y : D, gTup [.fz x, .fz y] = some (.val (.tuple [x, y])) := fun _ _ => rfl
  rw [← hWD, ← hOD]
  obtain ⟨F1, hF1⟩ : ∃ I, I = first80 := ⟨_, rfl⟩
  obtain ⟨M1, hM1⟩ : ∃ I, I = mid80 := ⟨_, rfl⟩
  simp [-getElem?_pos, -List.getD_eq_getElem?_getD, -getElem?_neg, List.getElem?_cons_zero, List.getElem?_cons_succ, tail80, ← hF1, ← hM1, g3, gt2]
  refine forS_inv (T80 (.frz false S) (.own false (.lst q)) (.frz false (.list WD)) (.own false (.lst OD))) _ 0 _ ⟨_, _, _, rfl, .non, .non, .non⟩ (fun j d r hd h => ?_) (fun r h => ?_)
  · rw [Nat.zero_add] at h ⊢
    obtain ⟨x5, x6, x7, rfl, h5, h6, h7⟩ := h
    obtain ⟨i, k, hi, hk, rfl⟩ := prs80 hd
    obtain ⟨a, ha⟩ : ∃ a, Fs[i]? = some a := ⟨_, List.getElem?_eq_getElem (by omega)⟩
    obtain ⟨b, hb⟩ : ∃ b, Fs[k]? = some b := ⟨_, List.getElem?_eq_getElem (by omega)⟩
    have fa := hF a (List.mem_of_getElem? ha)
    have fb := hF b (List.mem_of_getElem? hb)
    have i1 : ixP WD (i : Int) = some a.w := ixP_nat (by rw [hWD, List.getElem?_map, ha]; rfl)
    have i2 : ixP OD (i : Int) = some a.o := ixP_nat (by rw [hOD, List.getElem?_map, ha]; rfl)
    have i3 : ixP WD (k : Int) = some b.w := ixP_nat (by rw [hWD, List.getElem?_map, hb]; rfl)
    have i4 : ixP OD (k : Int) = some b.o := ixP_nat (by rw [hOD, List.getElem?_map, hb]; rfl)
    obtain ⟨_, _, e1, rfl, rfl⟩ := ref_alike fa fb
    obtain ⟨_, _, e2, rfl, rfl⟩ := due_ok (Ws := [a, b]) (fun x hx => by
      rcases List.mem_cons.mp hx with rfl | hx
      · exact fa
      · rw [List.mem_singleton.mp hx]; exact fb) (by simp)
    have e2 : sem_Ldue_cbcf [.fz (.list [a.w, b.w])] = some (.ok (dueV (a.sev || b.sev)), [.fz (.list [a.w, b.w])]) := by
      have : [a, b].any F80.sev = (a.sev || b.sev) := by simp
      rw [this] at e2
      exact e2
    have gt4 : ∀ x y z w : D, gTup [.fz x, .fz y, .fz z, .fz w] = some (.val (.tuple [x, y, z, w])) := fun _ _ _ _ => rfl
    have gl2 : ∀ x y : D, gLst [.fz x, .fz y] = some (.new (.lst [x, y])) := fun _ _ => rfl
    obtain ⟨C, hC⟩ : ∃ C, C = (a.sev || b.sev) := ⟨_, rfl⟩
    rw [← hC] at e1 e2
    obtain ⟨W1, hW1⟩ : ∃ C, C = a.w := ⟨_, rfl⟩
    obtain ⟨O1, hO1⟩ : ∃ C, C = a.o := ⟨_, rfl⟩
    obtain ⟨W2, hW2⟩ : ∃ C, C = b.w := ⟨_, rfl⟩
    obtain ⟨O2, hO2⟩ : ∃ C, C = b.o := ⟨_, rfl⟩
    rw [← hW1] at i1
    rw [← hW2] at i3
    rw [← hO1] at i2
    rw [← hO2] at i4
    rw [← hW1, ← hO1, ← hW2, ← hO2] at e1
    rw [← hW1, ← hW2] at e2
    have dd := dueV_data C
    have gg := gNe_due C
    have nx : T80 (.frz false S) (.own false (.lst q)) (.frz false (.list WD)) (.own false (.lst OD)) (j + 1) [.frz false S, .own false (.lst q), .frz false (.list WD), .own false (.lst OD), .non, .frz false (.int (i : Int)), .frz false (.int (k : Int)), .frz false (.tuple [W1, O1, W2, O2]), .non, .non, .non, .non] := ⟨_, _, _, rfl, .frz, .frz, .frz⟩
    rw [hF1]
    simp [-getElem?_pos, -List.getD_eq_getElem?_getD, -getElem?_neg, List.getElem?_cons_zero, List.getElem?_cons_succ, first80, h5.pin, h5.al, h6.pin, h6.al, h7.pin, h7.al, i1, i2, i3, i4, gt4, gl2, e1, e2, dd, gg]
    exact nx
  · obtain ⟨x5, x6, x7, rfl, h5, h6, h7⟩ := h
    simp [-getElem?_pos, -List.getD_eq_getElem?_getD, -getElem?_neg, List.getElem?_cons_zero, List.getElem?_cons_succ]
    refine forS_inv (U80 (.frz false S) (.frz false (.list WD)) (.own false (.lst OD)) x5 x6 x7 n) (rng 0 2) 0 _ ⟨q, _, _, _, _, rfl, hq, .non, .non, .non, .non⟩ (fun k d r hd h => ?_) (fun r h => ?_)
    · obtain ⟨rfl, hk⟩ := rng0_get hd
      rw [Nat.zero_add] at h ⊢
      obtain ⟨q, x4, x8, x9, x11, rfl, hq, h4, h8, h9, h11⟩ := h
      obtain ⟨a, ha⟩ : ∃ a, Fs[k]? = some a := ⟨_, List.getElem?_eq_getElem (by omega)⟩
      have := mid80_ok (s0 := .frz false S) (fun _ => rfl) h5 h6 h7 hF ha (n := n + 4 * k) (by omega) hq h8 h9 h11 (Q := fun o r => o = .nx ∧ U80 (.frz false S) (.frz false (.list WD)) (.own false (.lst OD)) x5 x6 x7 n (k + 1) r) fun r ⟨q2, y8, y9, y11, e, p1, p2, p3, p4⟩ => ⟨rfl, q2, .frz false (.int (k : Int)), y8, y9, y11, by rw [hWD, hOD]; exact e, pen_mono (by omega) p1, .frz, p2, p3, p4⟩
      rw [← hWD, ← hOD, ← hM1] at this
      simp [-getElem?_pos, -List.getD_eq_getElem?_getD, -getElem?_neg, List.getElem?_cons_zero, List.getElem?_cons_succ, h4.pin, h4.al]
      refine this.mono fun o r ⟨e, h⟩ => ?_
      subst e
      exact h
    · obtain ⟨q, x4, x8, x9, x11, rfl, hq, h4, h8, h9, h11⟩ := h
      simp [-getElem?_pos, -List.getD_eq_getElem?_getD, -getElem?_neg, List.getElem?_cons_zero, List.getElem?_cons_succ]
set_option maxHeartbeats 8000000 in
theorem law80_ok (ns : List Int) (h : ns.length ≤ 63) : Oks sem_law_716dR [.fz (.dict ((.none, .none) :: ns.map fun n => (.int n, .none)))] fun v ys => v = .ok (.val (.bool true)) ∧ ys.length = 1 := by
  have lb : (lineD : Nat) = 16777216 := rfl
  obtain ⟨_, _, e1, p, rfl, rfl, hp⟩ := pen_ok h
  obtain ⟨S, hS⟩ : ∃ S : D, S = .dict ((.none, .none) :: ns.map fun n => (.int n, .none)) := ⟨_, rfl⟩
  rw [← hS] at e1 ⊢
  have hb : b_law_716dR = (sSeq (sSet 1 (mCall sem_Lpen_3d2f [(oS 0)]))
    (sSeq (sSet 2 (mLc [4] (mOpL gRng1 [(oE (mC (.int 2)))]) (setN 4) mYes (mOp gIx [(oE (mOp gLst [(oE (mCall sem_Lweb_0350 [(oS 1), (oE (mC (.int 25))), (oE (mC (.int 24)))])), (oE (mCall sem_Lone_part_805b [(oS 1), (oE (mC (.int 10)))]))])), (oE (mCall sem_Ldraw_de5b [(oS 1), (oE (mC (.int 2)))]))])))
    (sSeq (sSet 3 (mLc [10] (mRow (mRd 2)) (setN 10) mYes (mCall sem_Lorder_8e8e [(oS 1), (oS 10)])))
    tail80))) := rfl
  have gl2 : ∀ x y : D, gLst [.fz x, .fz y] = some (.new (.lst [x, y])) := fun _ _ => rfl
  obtain ⟨T, hT⟩ : ∃ I, I = tail80 := ⟨_, rfl⟩
  rw [← hT] at hb
  refine oks_def rfl ?_
  rw [hb]
  simp [-getElem?_pos, -List.getD_eq_getElem?_getD, -getElem?_neg, List.getElem?_cons_zero, List.getElem?_cons_succ, e1, anyPin]
  refine lcK_inv (acc := []) (fun j acc r => ∃ (q : List D) (Ws : List (Int × List (Int × Int))), acc = Ws.map (fun w => webD w.1 w.2) ∧ Ws.length = j ∧ (∀ w ∈ Ws, Wb w.1 w.2) ∧ r = [.frz false S, .own false (.lst q), .non, .non, .non, .non, .non, .non, .non, .non, .non, .non] ∧ Pen (8000 * j) q) (n := 0) ⟨p, [], rfl, rfl, fun _ h => (nomatch h), rfl, hp⟩ (by rw [rng0_len, List.length_nil, lb]; decide) (fun j d acc r hd h => ?_) (fun zs r h => ?_)
  · obtain ⟨rfl, hj⟩ := rng0_get hd
    rw [Nat.zero_add] at h ⊢
    obtain ⟨q, Ws, rfl, hl, hW, rfl, hq⟩ := h
    obtain ⟨_, _, f1, m, ts, q1, rfl, rfl, hw, hq1⟩ := web_ok hq (by omega) (pl := 25) (ti := 24) (by omega) (by omega)
    obtain ⟨_, _, f2, m2, ts2, q2, rfl, rfl, hm2, hl2, ht2, _, hq2⟩ := one_part_okL hq1 (by omega) (lim := 10) (by omega) (by omega)
    obtain ⟨_, _, f3, c, q3, rfl, rfl, c0, c1, hq3⟩ := draw_ok hq2 (by omega) (m := 2) (by omega)
    have w1 : Wb m ts := ⟨⟨hw.m1, hw.mN⟩, hw.len, hw.ok⟩
    have w2 : Wb m2 ts2 := ⟨hm2, by omega, ht2⟩
    obtain ⟨w, hw, hix⟩ : ∃ w : Int × List (Int × Int), Wb w.1 w.2 ∧ ixP [webD m ts, webD m2 ts2] c = some (webD w.1 w.2) := by
      have : c = 0 ∨ c = 1 := by omega
      rcases this with rfl | rfl
      · exact ⟨(m, ts), w1, rfl⟩
      · exact ⟨(m2, ts2), w2, rfl⟩
    have nx : ∃ (q : List D) (Vs : List (Int × List (Int × Int))), Ws.map (fun w => webD w.1 w.2) ++ [webD w.1 w.2] = Vs.map (fun w => webD w.1 w.2) ∧ Vs.length = j + 1 ∧ (∀ w ∈ Vs, Wb w.1 w.2) ∧ ([.frz false S, .own false (.lst q3), .non, .non, .non, .non, .non, .non, .non, .non, .non, .non] : Ro) = [.frz false S, .own false (.lst q), .non, .non, .non, .non, .non, .non, .non, .non, .non, .non] ∧ Pen (8000 * (j + 1)) q :=
      ⟨q3, Ws ++ [w], by rw [List.map_append]; rfl, by rw [List.length_append, hl]; rfl, fun x hx => by
        rcases List.mem_append.mp hx with hx | hx
        · exact hW x hx
        · rw [List.mem_singleton.mp hx]; exact hw, rfl, pen_mono (by omega) hq3⟩
    obtain ⟨A, hA⟩ : ∃ A, A = webD m ts := ⟨_, rfl⟩
    obtain ⟨B, hB⟩ : ∃ A, A = webD m2 ts2 := ⟨_, rfl⟩
    obtain ⟨C, hC⟩ : ∃ A, A = webD w.1 w.2 := ⟨_, rfl⟩
    obtain ⟨Z, hZ⟩ : ∃ A, A = Ws.map (fun w => webD w.1 w.2) := ⟨_, rfl⟩
    rw [← hA] at f1 hix
    rw [← hB] at f2 hix
    rw [← hC] at hix nx
    rw [← hZ] at nx ⊢
    obtain ⟨P, hP⟩ : ∃ P : List D → Ro → Prop, P = fun acc r => ∃ (q : List D) (Ws : List (Int × List (Int × Int))), acc = Ws.map (fun w => webD w.1 w.2) ∧ Ws.length = j + 1 ∧ (∀ w ∈ Ws, Wb w.1 w.2) ∧ r = [.frz false S, .own false (.lst q), .non, .non, .non, .non, .non, .non, .non, .non, .non, .non] ∧ Pen (8000 * (j + 1)) q := ⟨_, rfl⟩
    have nx : P (Z ++ [C]) [.frz false S, .own false (.lst q3), .non, .non, .non, .non, .non, .non, .non, .non, .non, .non] := by rw [hP]; exact nx
    have hPP : ∀ acc r, (∃ (q : List D) (Ws : List (Int × List (Int × Int))), acc = Ws.map (fun w => webD w.1 w.2) ∧ Ws.length = j + 1 ∧ (∀ w ∈ Ws, Wb w.1 w.2) ∧ r = [.frz false S, .own false (.lst q), .non, .non, .non, .non, .non, .non, .non, .non, .non, .non] ∧ Pen (8000 * (j + 1)) q) = P acc r := fun acc r => by rw [hP]
    simp only [hPP]
    simp [-getElem?_pos, -List.getD_eq_getElem?_getD, -getElem?_neg, List.getElem?_cons_zero, List.getElem?_cons_succ, f1, f2, f3, gl2, hix]
    exact nx
  · rw [Nat.zero_add, rng0_len] at h
    obtain ⟨q, Ws, rfl, hl, hW, rfl, hq⟩ := h
    have hl : Ws.length = 2 := hl
    have hq : Pen 16000 q := hq
    obtain ⟨WD, hWD⟩ : ∃ C, C = Ws.map (fun w => webD w.1 w.2) := ⟨_, rfl⟩
    have wl : WD.length = 2 := by rw [hWD, List.length_map, hl]
    rw [← hWD]
    simp [-getElem?_pos, -List.getD_eq_getElem?_getD, -getElem?_neg, List.getElem?_cons_zero, List.getElem?_cons_succ, anyPin]
    refine lcK_inv (acc := []) (fun j acc r => ∃ (q : List D) (Fs : List F80), acc = Fs.map F80.o ∧ Fs.length = j ∧ Fs.map F80.w = WD.take j ∧ (∀ x ∈ Fs, F80.ok x) ∧ r = [.frz false S, .own false (.lst q), .frz false (.list WD), .non, .non, .non, .non, .non, .non, .non, .non, .non] ∧ Pen (16000 + 100 * j) q) (n := 0) ⟨q, [], rfl, rfl, rfl, fun _ h => (nomatch h), rfl, hq⟩ (by rw [wl, List.length_nil, lb]; decide) (fun j d acc r hd h => ?_) (fun zs r h => ?_)
    · rw [Nat.zero_add] at h ⊢
      have hd0 := hd
      have hj : j < 2 := by rw [← wl]; exact (List.getElem?_eq_some_iff.mp hd).1
      rw [hWD, List.getElem?_map] at hd
      obtain ⟨w, hw, rfl⟩ := Option.map_eq_some_iff.mp hd
      have wb := hW w (List.mem_of_getElem? hw)
      have hm := wb.hm
      have hl24 := wb.hl
      obtain ⟨q, Fs, rfl, hFl, hFw, hF, rfl, hq⟩ := h
      obtain ⟨_, _, f1, rows, q1, rfl, rfl, ho, hq1⟩ := order_ok hq (by omega) (m := w.1) (ts := w.2) (by omega) (by omega) wb.ht
      obtain ⟨P, hP⟩ : ∃ P : List D → Ro → Prop, P = fun acc r => ∃ (q : List D) (Fs : List F80), acc = Fs.map F80.o ∧ Fs.length = j + 1 ∧ Fs.map F80.w = WD.take (j + 1) ∧ (∀ x ∈ Fs, F80.ok x) ∧ r = [.frz false S, .own false (.lst q), .frz false (.list WD), .non, .non, .non, .non, .non, .non, .non, .non, .non] ∧ Pen (16000 + 100 * (j + 1)) q := ⟨_, rfl⟩
      have hPP : ∀ acc r, (∃ (q : List D) (Fs : List F80), acc = Fs.map F80.o ∧ Fs.length = j + 1 ∧ Fs.map F80.w = WD.take (j + 1) ∧ (∀ x ∈ Fs, F80.ok x) ∧ r = [.frz false S, .own false (.lst q), .frz false (.list WD), .non, .non, .non, .non, .non, .non, .non, .non, .non] ∧ Pen (16000 + 100 * (j + 1)) q) = P acc r := fun acc r => by rw [hP]
      have nx : P (Fs.map F80.o ++ [orderD rows]) [.frz false S, .own false (.lst q1), .frz false (.list WD), .non, .non, .non, .non, .non, .non, .non, .non, .non] := by
        rw [hP]
        refine ⟨q1, Fs ++ [⟨w.1, w.2, rows⟩], by rw [List.map_append]; rfl, by rw [List.length_append, hFl]; rfl, ?_, fun x hx => ?_, rfl, pen_mono (by omega) hq1⟩
        · rw [List.map_append, hFw, List.take_add_one, hd0]
          rfl
        · rcases List.mem_append.mp hx with hx | hx
          · exact hF x hx
          · rw [List.mem_singleton.mp hx]; exact ⟨wb, ho⟩
      simp only [hPP]
      obtain ⟨A, hA⟩ : ∃ A, A = webD w.1 w.2 := ⟨_, rfl⟩
      obtain ⟨O1, hO1⟩ : ∃ A, A = orderD rows := ⟨_, rfl⟩
      obtain ⟨Z, hZ⟩ : ∃ A, A = Fs.map F80.o := ⟨_, rfl⟩
      rw [← hA, ← hO1] at f1
      rw [← hZ, ← hO1] at nx
      rw [← hA, ← hZ]
      simp [-getElem?_pos, -List.getD_eq_getElem?_getD, -getElem?_neg, List.getElem?_cons_zero, List.getElem?_cons_succ, f1]
      exact nx
    · rw [Nat.zero_add, wl] at h
      obtain ⟨q, Fs, rfl, hFl, hFw, hF, rfl, hq⟩ := h
      have hFw : Fs.map F80.w = WD := by rw [hFw, ← wl, List.take_length]
      have := tail80_ok (S := S) hq (by omega) hFl hF
      rw [hFw, ← hT] at this
      simp [-getElem?_pos, -List.getD_eq_getElem?_getD, -getElem?_neg, List.getElem?_cons_zero, List.getElem?_cons_succ]
      exact this
end Lw
end

section
namespace Lw
open PySem PySem.Spec PyProof.Rows L2 DL
def topS (i : Nat) : Stmt := PySem.Challenge.pw_holefloor_k80_floors_of_several_parts.main.body.getD i (.Pass ⟨0, 0, 0, 0⟩)
abbrev s_partner : Stmt := topS 18
abbrev s_parts_by : Stmt := topS 19
abbrev s_parts_of : Stmt := topS 20
abbrev s_is_one_part : Stmt := topS 21
abbrev s_look_one_part : Stmt := topS 23
abbrev s_followers : Stmt := topS 24
abbrev s_numbered : Stmt := topS 25
abbrev s_coded : Stmt := topS 26
abbrev s_code_from : Stmt := topS 27
abbrev s_code : Stmt := topS 28
abbrev s_renamings : Stmt := topS 29
abbrev s_alike : Stmt := topS 30
abbrev s_turnings : Stmt := topS 31
abbrev s_Lpen : Stmt := topS 33
abbrev s_Ldraw : Stmt := topS 34
abbrev s_Lweb : Stmt := topS 35
abbrev s_Lorder : Stmt := topS 36
abbrev s_Lparts : Stmt := topS 37
abbrev s_Lturnings : Stmt := topS 43
abbrev s_Lcode_from : Stmt := topS 42
abbrev s_Lcode : Stmt := topS 41
abbrev s_Lalike : Stmt := topS 40
abbrev s_Lrefusal : Stmt := topS 38
abbrev s_Lone_part : Stmt := topS 39
abbrev s_Ldue : Stmt := topS 44
abbrev s_law : Stmt := topS 45
section
variable {P : Program} {w : World} {K : PySem.W.Frag} {mg : Str → Option Value} {base : Heap}
theorem sc_partner : FnScope ["end"] ["end"] (defScope s_partner) := ⟨rfl, rfl, rfl, by decide +kernel, rfl, by decide +kernel, by decide +kernel⟩
set_option maxHeartbeats 4000000 in
theorem ok_partner {k : Nat} {f : Addr} {fd : FuncData} (F : Fun K "partner" "partner" s_partner f fd) :
    FnOk P w K mg base (L2N.CX P w) (k + 1) f fd ["end"] (spD K mg (defSem 1 1 b_partner_1131) 1) :=
  def_ok (N := ["end"]) F sc_partner (by decide) fun cdv A outer s H E hr tk =>
    (dss_one (ds_ret (de_bin od_sub (do_of (de_bin od_add (do_var (pv 0)) (do_of de_int))) (do_of (de_bin od_mul (do_of de_int) (do_of (de_bin od_mod (do_var (pv 0)) (do_of de_int))))))))
theorem sc_parts_by : FnScope ["many", "ties", "label", "parts", "place", "a", "b", "low", "high", "first"] ["many", "ties"] (defScope s_parts_by) := ⟨rfl, rfl, rfl, by decide +kernel, rfl, by decide +kernel, by decide +kernel⟩
set_option maxHeartbeats 4000000 in
theorem ok_parts_by {k : Nat} {f : Addr} {fd : FuncData} (F : Fun K "parts_by" "parts_by" s_parts_by f fd) (z_list : mg "list" = none) (z_range : mg "range" = none) (z_min : mg "min" = none) (z_max : mg "max" = none) (z_sorted : mg "sorted" = none) :
    FnOk P w K mg base (L2N.CX P w) (k + 1) f fd ["many", "ties"] (spD K mg (defSem 2 10 b_parts_by_ccdf) 2) :=
  def_ok (N := ["many", "ties", "label", "parts", "place", "a", "b", "low", "high", "first"]) F sc_parts_by (by decide) fun cdv A outer s H E hr tk =>
    (dss_cons (ds_set (i := 2) sc_parts_by.nd rfl (by first | exact Or.inl rfl | exact Or.inr rfl) (de_lrng1 rfl (by rfl) z_list (by rfl) z_range (do_var (pv 0))))
    (dss_cons (ds_for (passes_of rfl) rfl (di_seq (lo := false) (de_var (pv 1))) (dg_tup rfl (dgs_cons (dg_name sc_parts_by.nd rfl (by first | exact Or.inl rfl | exact Or.inr rfl)) (dgs_cons (dg_name sc_parts_by.nd rfl (by first | exact Or.inl rfl | exact Or.inr rfl)) dgs_nil))) (dss_cons (ds_set (i := 7) sc_parts_by.nd rfl (by first | exact Or.inl rfl | exact Or.inr rfl) (de_cb (cd_min2 rfl) (by rfl) z_min (by decide +kernel) (da_cons (do_of (de_ix ixd_get (do_var (pv 2)) (do_var (pv 5)) (fun _ _ => rfl))) (da_cons (do_of (de_ix ixd_get (do_var (pv 2)) (do_var (pv 6)) (fun _ _ => rfl))) da_nil))))
    (dss_cons (ds_set (i := 8) sc_parts_by.nd rfl (by first | exact Or.inl rfl | exact Or.inr rfl) (de_cb (cd_max2 rfl) (by rfl) z_max (by decide +kernel) (da_cons (do_of (de_ix ixd_get (do_var (pv 2)) (do_var (pv 5)) (fun _ _ => rfl))) (da_cons (do_of (de_ix ixd_get (do_var (pv 2)) (do_var (pv 6)) (fun _ _ => rfl))) da_nil))))
    (dss_one (ds_for (passes_of rfl) rfl (di_rng1 (by rfl) z_range (do_var (pv 0))) (dg_name sc_parts_by.nd rfl (by first | exact Or.inl rfl | exact Or.inr rfl)) (dss_one (ds_if (db_cmp (od_eq hr.units) (do_of (de_ix ixd_get (do_var (pv 2)) (do_var (pv 4)) (fun _ _ => rfl))) (do_var (pv 8)) (nomark _)) (dss_one (ds_sub (pv 2) (de_var (pv 7)) (do_var (pv 4)))) dss_nil)))))))
    (dss_cons (ds_set (i := 3) sc_parts_by.nd rfl (by first | exact Or.inl rfl | exact Or.inr rfl) de_newK)
    (dss_cons (ds_for (passes_of rfl) rfl (di_rng1 (by rfl) z_range (do_var (pv 0))) (dg_name sc_parts_by.nd rfl (by first | exact Or.inl rfl | exact Or.inr rfl)) (dss_one (ds_expr (de_sda (pv 3) (do_of (de_ix ixd_get (do_var (pv 2)) (do_var (pv 4)) (fun _ _ => rfl))) (pv 4) ⟨by rfl, by rfl, by rfl, by rfl⟩))))
    (dss_one (ds_retDl (own := [("first", 9)]) (i := 3) (j := 9) rfl sc_parts_by.nd (hu_of hr) (by rfl) z_sorted (pv 3) (blkOk_by (own := [("first", 9)]) (by first | rfl | decide +kernel)) (fun _ _ _ _ _ => (pg_name sc_parts_by.nd rfl (by first | exact Or.inl rfl | exact Or.inr rfl))) (fun _ _ _ _ _ => pv 3) (fun _ _ _ _ _ => pv 9) (fun _ _ => rfl) (by decide)))))))
theorem sc_parts_of : FnScope ["web"] ["web"] (defScope s_parts_of) := ⟨rfl, rfl, rfl, by decide +kernel, rfl, by decide +kernel, by decide +kernel⟩
set_option maxHeartbeats 4000000 in
theorem ok_parts_of {k : Nat} {f : Addr} {fd : FuncData} (F : Fun K "parts_of" "parts_of" s_parts_of f fd) {f_parts_by : Addr} {fd_parts_by : FuncData} (G_parts_by : FnOk P w K mg base (L2N.CX P w) k f_parts_by fd_parts_by ["many", "ties"] (spD K mg sem_parts_by_ccdf 2)) (g_parts_by : mg "parts_by" = some (.ref f_parts_by)) (k_parts_by : PySem.W.keepIn K (.ref f_parts_by) = true) (B_parts_by : Binds K fd_parts_by ["many", "ties"] []) :
    FnOk P w K mg base (L2N.CX P w) (k + 1) f fd ["web"] (spD K mg (defSem 1 1 b_parts_of_a581) 1) :=
  def_ok (N := ["web"]) F sc_parts_of (by decide) fun cdv A outer s H E hr tk =>
    (dss_one (ds_ret (de_fzl (de_call tk G_parts_by hr (by rfl) g_parts_by k_parts_by B_parts_by rfl (da_cons (do_of (de_ix ixd_get (do_var (pv 0)) (do_of de_int) (fun _ _ => rfl))) (da_cons (do_of (de_ix ixd_get (do_var (pv 0)) (do_of de_int) (fun _ _ => rfl))) da_nil))))))
theorem sc_is_one_part : FnScope ["web"] ["web"] (defScope s_is_one_part) := ⟨rfl, rfl, rfl, by decide +kernel, rfl, by decide +kernel, by decide +kernel⟩
set_option maxHeartbeats 4000000 in
theorem ok_is_one_part {k : Nat} {f : Addr} {fd : FuncData} (F : Fun K "is_one_part" "is_one_part" s_is_one_part f fd) {f_parts_of : Addr} {fd_parts_of : FuncData} (G_parts_of : FnOk P w K mg base (L2N.CX P w) k f_parts_of fd_parts_of ["web"] (spD K mg sem_parts_of_a581 1)) (g_parts_of : mg "parts_of" = some (.ref f_parts_of)) (k_parts_of : PySem.W.keepIn K (.ref f_parts_of) = true) (B_parts_of : Binds K fd_parts_of ["web"] []) (z_len : mg "len" = none) :
    FnOk P w K mg base (L2N.CX P w) (k + 1) f fd ["web"] (spD K mg (defSem 1 1 b_is_one_part_3b38) 1) :=
  def_ok (N := ["web"]) F sc_is_one_part (by decide) fun cdv A outer s H E hr tk =>
    (dss_one (ds_ret (de_cmp (od_eq hr.units) (do_of (de_cb cd_len (by rfl) z_len (by decide +kernel) (da_cons (do_of (de_call tk G_parts_of hr (by rfl) g_parts_of k_parts_of B_parts_of rfl (da_cons (do_var (pv 0)) da_nil))) da_nil))) (do_of de_int) (nomark _))))
theorem sc_look_one_part : FnScope ["web"] ["web"] (defScope s_look_one_part) := ⟨rfl, rfl, rfl, by decide +kernel, rfl, by decide +kernel, by decide +kernel⟩
set_option maxHeartbeats 4000000 in
theorem ok_look_one_part {k : Nat} {f : Addr} {fd : FuncData} (F : Fun K "look_one_part" "look_one_part" s_look_one_part f fd) {f_is_one_part : Addr} {fd_is_one_part : FuncData} (G_is_one_part : FnOk P w K mg base (L2N.CX P w) k f_is_one_part fd_is_one_part ["web"] (spD K mg sem_is_one_part_3b38 1)) (g_is_one_part : mg "is_one_part" = some (.ref f_is_one_part)) (k_is_one_part : PySem.W.keepIn K (.ref f_is_one_part) = true) (B_is_one_part : Binds K fd_is_one_part ["web"] []) {C_Apart : Addr} (x_Apart : ExK K mg "Apart" C_Apart) :
    FnOk P w K mg base (L2N.CX P w) (k + 1) f fd ["web"] (spD K mg (defSem 1 1 b_look_one_part_304cR) 1) :=
  def_ok (N := ["web"]) F sc_look_one_part (by decide) fun cdv A outer s H E hr tk =>
    (dss_one (ds_if (db_not (db_val (de_call tk G_is_one_part hr (by rfl) g_is_one_part k_is_one_part B_is_one_part rfl (da_cons (do_var (pv 0)) da_nil)))) (dss_one (ds_raise0 (cls := "Apart") rfl tk x_Apart (by rfl))) dss_nil))
theorem sc_followers : FnScope ["web", "order", "found", "row", "k", "end"] ["web", "order"] (defScope s_followers) := ⟨rfl, rfl, rfl, by decide +kernel, rfl, by decide +kernel, by decide +kernel⟩
set_option maxHeartbeats 4000000 in
theorem ok_followers {k : Nat} {f : Addr} {fd : FuncData} (F : Fun K "followers" "followers" s_followers f fd) (z_len : mg "len" = none) (z_range : mg "range" = none) :
    FnOk P w K mg base (L2N.CX P w) (k + 1) f fd ["web", "order"] (spD K mg (defSem 2 6 b_followers_13ce) 2) :=
  def_ok (N := ["web", "order", "found", "row", "k", "end"]) F sc_followers (by decide) fun cdv A outer s H E hr tk =>
    (dss_cons (ds_setLc (i := 2) (own := [("end", 5)]) rfl sc_followers.nd rfl rfl (sw_true rfl rfl rfl (by decide +kernel)) (di_rng1 (by rfl) z_range (do_of (de_bin od_mul (do_of de_int) (do_of (de_cb cd_len (by rfl) z_len (by decide +kernel) (da_cons (do_of (de_ix ixd_get (do_var (pv 0)) (do_of de_int) (fun _ _ => rfl))) da_nil)))))) (blkOk_by (own := [("end", 5)]) (by first | rfl | decide +kernel)) (fun _ _ _ _ _ => (dg_name sc_followers.nd rfl (by first | exact Or.inl rfl | exact Or.inr rfl))) (fun _ _ _ _ _ => dts_nil) (fun _ _ _ _ _ => de_int) (by decide))
    (dss_cons (ds_for (passes_of rfl) rfl (di_seq (lo := false) (de_var (pv 1))) (dg_name sc_followers.nd rfl (by first | exact Or.inl rfl | exact Or.inr rfl)) (dss_one (ds_for (passes_of rfl) rfl (di_rng1 (by rfl) z_range (do_of (de_cb cd_len (by rfl) z_len (by decide +kernel) (da_cons (do_var (pv 3)) da_nil)))) (dg_name sc_followers.nd rfl (by first | exact Or.inl rfl | exact Or.inr rfl)) (dss_one (ds_sub (pv 2) (de_ix ixd_get (do_var (pv 3)) (do_of (de_bin od_mod (do_of (de_bin od_add (do_var (pv 4)) (do_of de_int))) (do_of (de_cb cd_len (by rfl) z_len (by decide +kernel) (da_cons (do_var (pv 3)) da_nil))))) (fun _ _ => rfl)) (do_of (de_ix ixd_get (do_var (pv 3)) (do_var (pv 4)) (fun _ _ => rfl))))))))
    (dss_one (ds_ret (de_var (pv 2))))))
theorem sc_numbered : FnScope ["after", "begin", "found", "met", "end", "here", "there"] ["after", "begin"] (defScope s_numbered) := ⟨rfl, rfl, rfl, by decide +kernel, rfl, by decide +kernel, by decide +kernel⟩
set_option maxHeartbeats 4000000 in
theorem ok_numbered {k : Nat} {f : Addr} {fd : FuncData} (F : Fun K "numbered" "numbered" s_numbered f fd) {f_partner : Addr} {fd_partner : FuncData} (G_partner : FnOk P w K mg base (L2N.CX P w) k f_partner fd_partner ["end"] (spD K mg sem_partner_1131 1)) (g_partner : mg "partner" = some (.ref f_partner)) (k_partner : PySem.W.keepIn K (.ref f_partner) = true) (B_partner : Binds K fd_partner ["end"] []) (z_len : mg "len" = none) (z_range : mg "range" = none) :
    FnOk P w K mg base (L2N.CX P w) (k + 1) f fd ["after", "begin"] (spD K mg (defSem 2 7 b_numbered_8309) 2) :=
  def_ok (N := ["after", "begin", "found", "met", "end", "here", "there"]) F sc_numbered (by decide) fun cdv A outer s H E hr tk =>
    (dss_cons (ds_set (i := 2) sc_numbered.nd rfl (by first | exact Or.inl rfl | exact Or.inr rfl) (de_lst (da_cons (do_of (de_var (pv 1))) da_nil)))
    (dss_cons (ds_set (i := 3) sc_numbered.nd rfl (by first | exact Or.inl rfl | exact Or.inr rfl) (de_disp1 (do_var (pv 1)) de_bl))
    (dss_cons (ds_for (passes_of rfl) rfl (di_rng1 (by rfl) z_range (do_of (de_cb cd_len (by rfl) z_len (by decide +kernel) (da_cons (do_var (pv 0)) da_nil)))) (dg_name sc_numbered.nd rfl (by first | exact Or.inl rfl | exact Or.inr rfl)) (dss_cons (ds_set (i := 5) sc_numbered.nd rfl (by first | exact Or.inl rfl | exact Or.inr rfl) (de_ix ixd_get (do_var (pv 2)) (do_var (pv 4)) (fun _ _ => rfl)))
    (dss_one (ds_for (passes_of rfl) rfl (di_seq (lo := false) (de_tup (da_cons (do_of (de_call tk G_partner hr (by rfl) g_partner k_partner B_partner rfl (da_cons (do_var (pv 5)) da_nil))) (da_cons (do_of (de_ix ixd_get (do_var (pv 0)) (do_var (pv 5)) (fun _ _ => rfl))) da_nil)))) (dg_name sc_numbered.nd rfl (by first | exact Or.inl rfl | exact Or.inr rfl)) (dss_one (ds_if (db_nin (hu_of hr) (do_var (pv 6)) (pv 3)) (dss_cons (ds_put (hu_of hr) (pv 3) (do_var (pv 6)) de_bl)
    (dss_one (ds_expr (de_mut PySem.F.plainAttrs_list PySem.F.slot_list_append PySem.F.type_list_append md_append (pv 2) (da_cons (do_of (de_var (pv 6))) da_nil))))) dss_nil))))))
    (dss_one (ds_ret (de_var (pv 2)))))))
theorem sc_coded : FnScope ["after", "row", "numbers", "k", "end"] ["after", "row"] (defScope s_coded) := ⟨rfl, rfl, rfl, by decide +kernel, rfl, by decide +kernel, by decide +kernel⟩
set_option maxHeartbeats 4000000 in
theorem ok_coded {k : Nat} {f : Addr} {fd : FuncData} (F : Fun K "coded" "coded" s_coded f fd) {f_partner : Addr} {fd_partner : FuncData} (G_partner : FnOk P w K mg base (L2N.CX P w) k f_partner fd_partner ["end"] (spD K mg sem_partner_1131 1)) (g_partner : mg "partner" = some (.ref f_partner)) (k_partner : PySem.W.keepIn K (.ref f_partner) = true) (B_partner : Binds K fd_partner ["end"] []) (z_len : mg "len" = none) (z_range : mg "range" = none) (z_tuple : mg "tuple" = none) :
    FnOk P w K mg base (L2N.CX P w) (k + 1) f fd ["after", "row"] (spD K mg (defSem 2 5 b_coded_69cd) 2) :=
  def_ok (N := ["after", "row", "numbers", "k", "end"]) F sc_coded (by decide) fun cdv A outer s H E hr tk =>
    (dss_cons (ds_set (i := 2) sc_coded.nd rfl (by first | exact Or.inl rfl | exact Or.inr rfl) (de_lc (own := [("end", 4)]) rfl sc_coded.nd (di_seq (lo := false) (de_var (pv 1))) (blkOk_by (own := [("end", 4)]) (by first | rfl | decide +kernel)) (fun _ _ _ _ _ => (dg_name sc_coded.nd rfl (by first | exact Or.inl rfl | exact Or.inr rfl))) (fun _ _ _ _ _ => dts_nil) (fun _ _ _ _ _ => de_int) (by decide)))
    (dss_cons (ds_for (passes_of rfl) rfl (di_rng1 (by rfl) z_range (do_of (de_cb cd_len (by rfl) z_len (by decide +kernel) (da_cons (do_var (pv 1)) da_nil)))) (dg_name sc_coded.nd rfl (by first | exact Or.inl rfl | exact Or.inr rfl)) (dss_one (ds_sub (pv 2) (de_var (pv 3)) (do_of (de_ix ixd_get (do_var (pv 1)) (do_var (pv 3)) (fun _ _ => rfl))))))
    (dss_one (ds_ret (de_ct cd_tuple (by rfl) z_tuple (by decide +kernel) (da_cons (do_of (de_lc (own := [("end", 4)]) rfl sc_coded.nd (di_seq (lo := false) (de_var (pv 1))) (blkOk_by (own := [("end", 4)]) (by first | rfl | decide +kernel)) (fun _ _ _ _ _ => (dg_name sc_coded.nd rfl (by first | exact Or.inl rfl | exact Or.inr rfl))) (fun _ _ _ _ _ => dts_nil) (fun _ _ _ _ _ => (de_tup (da_cons (do_of (de_ix ixd_get (do_var (pv 2)) (do_of (de_call takesN0 G_partner hr (by rfl) g_partner k_partner B_partner rfl (da_cons (do_var (pv 4)) da_nil))) (fun _ _ => rfl))) (da_cons (do_of (de_ix ixd_get (do_var (pv 2)) (do_of (de_ix ixd_get (do_var (pv 0)) (do_var (pv 4)) (fun _ _ => rfl))) (fun _ _ => rfl))) da_nil)))) (by decide))) da_nil))))))
theorem sc_code_from : FnScope ["web", "order", "end", "after"] ["web", "order", "end"] (defScope s_code_from) := ⟨rfl, rfl, rfl, by decide +kernel, rfl, by decide +kernel, by decide +kernel⟩
set_option maxHeartbeats 4000000 in
theorem ok_code_from {k : Nat} {f : Addr} {fd : FuncData} (F : Fun K "code_from" "code_from" s_code_from f fd) {f_look_one_part : Addr} {fd_look_one_part : FuncData} (G_look_one_part : FnOk P w K mg base (L2N.CX P w) k f_look_one_part fd_look_one_part ["web"] (spD K mg sem_look_one_part_304cR 1)) (g_look_one_part : mg "look_one_part" = some (.ref f_look_one_part)) (k_look_one_part : PySem.W.keepIn K (.ref f_look_one_part) = true) (B_look_one_part : Binds K fd_look_one_part ["web"] []) {f_followers : Addr} {fd_followers : FuncData} (G_followers : FnOk P w K mg base (L2N.CX P w) k f_followers fd_followers ["web", "order"] (spD K mg sem_followers_13ce 2)) (g_followers : mg "followers" = some (.ref f_followers)) (k_followers : PySem.W.keepIn K (.ref f_followers) = true) (B_followers : Binds K fd_followers ["web", "order"] []) {f_coded : Addr} {fd_coded : FuncData} (G_coded : FnOk P w K mg base (L2N.CX P w) k f_coded fd_coded ["after", "row"] (spD K mg sem_coded_69cd 2)) (g_coded : mg "coded" = some (.ref f_coded)) (k_coded : PySem.W.keepIn K (.ref f_coded) = true) (B_coded : Binds K fd_coded ["after", "row"] []) {f_numbered : Addr} {fd_numbered : FuncData} (G_numbered : FnOk P w K mg base (L2N.CX P w) k f_numbered fd_numbered ["after", "begin"] (spD K mg sem_numbered_8309 2)) (g_numbered : mg "numbered" = some (.ref f_numbered)) (k_numbered : PySem.W.keepIn K (.ref f_numbered) = true) (B_numbered : Binds K fd_numbered ["after", "begin"] []) :
    FnOk P w K mg base (L2N.CX P w) (k + 1) f fd ["web", "order", "end"] (spD K mg (defSem 3 4 b_code_from_7a97R) 3) :=
  def_ok (N := ["web", "order", "end", "after"]) F sc_code_from (by decide) fun cdv A outer s H E hr tk =>
    (dss_cons (ds_expr (de_call tk G_look_one_part hr (by rfl) g_look_one_part k_look_one_part B_look_one_part rfl (da_cons (do_var (pv 0)) da_nil)))
    (dss_cons (ds_set (i := 3) sc_code_from.nd rfl (by first | exact Or.inl rfl | exact Or.inr rfl) (de_call tk G_followers hr (by rfl) g_followers k_followers B_followers rfl (da_cons (do_var (pv 0)) (da_cons (do_var (pv 1)) da_nil))))
    (dss_one (ds_ret (de_call tk G_coded hr (by rfl) g_coded k_coded B_coded rfl (da_cons (do_var (pv 3)) (da_cons (do_of (de_call tk G_numbered hr (by rfl) g_numbered k_numbered B_numbered rfl (da_cons (do_var (pv 3)) (da_cons (do_var (pv 2)) da_nil)))) da_nil)))))))
theorem sc_code : FnScope ["web", "order", "after", "end"] ["web", "order"] (defScope s_code) := ⟨rfl, rfl, rfl, by decide +kernel, rfl, by decide +kernel, by decide +kernel⟩
set_option maxHeartbeats 4000000 in
theorem ok_code {k : Nat} {f : Addr} {fd : FuncData} (F : Fun K "code" "code" s_code f fd) {f_look_one_part : Addr} {fd_look_one_part : FuncData} (G_look_one_part : FnOk P w K mg base (L2N.CX P w) k f_look_one_part fd_look_one_part ["web"] (spD K mg sem_look_one_part_304cR 1)) (g_look_one_part : mg "look_one_part" = some (.ref f_look_one_part)) (k_look_one_part : PySem.W.keepIn K (.ref f_look_one_part) = true) (B_look_one_part : Binds K fd_look_one_part ["web"] []) {f_followers : Addr} {fd_followers : FuncData} (G_followers : FnOk P w K mg base (L2N.CX P w) k f_followers fd_followers ["web", "order"] (spD K mg sem_followers_13ce 2)) (g_followers : mg "followers" = some (.ref f_followers)) (k_followers : PySem.W.keepIn K (.ref f_followers) = true) (B_followers : Binds K fd_followers ["web", "order"] []) {f_coded : Addr} {fd_coded : FuncData} (G_coded : FnOk P w K mg base (L2N.CX P w) k f_coded fd_coded ["after", "row"] (spD K mg sem_coded_69cd 2)) (g_coded : mg "coded" = some (.ref f_coded)) (k_coded : PySem.W.keepIn K (.ref f_coded) = true) (B_coded : Binds K fd_coded ["after", "row"] []) {f_numbered : Addr} {fd_numbered : FuncData} (G_numbered : FnOk P w K mg base (L2N.CX P w) k f_numbered fd_numbered ["after", "begin"] (spD K mg sem_numbered_8309 2)) (g_numbered : mg "numbered" = some (.ref f_numbered)) (k_numbered : PySem.W.keepIn K (.ref f_numbered) = true) (B_numbered : Binds K fd_numbered ["after", "begin"] []) (z_len : mg "len" = none) (z_range : mg "range" = none) (z_min : mg "min" = none) :
    FnOk P w K mg base (L2N.CX P w) (k + 1) f fd ["web", "order"] (spD K mg (defSem 2 4 b_code_8358R) 2) :=
  def_ok (N := ["web", "order", "after", "end"]) F sc_code (by decide) fun cdv A outer s H E hr tk =>
    (dss_cons (ds_expr (de_call tk G_look_one_part hr (by rfl) g_look_one_part k_look_one_part B_look_one_part rfl (da_cons (do_var (pv 0)) da_nil)))
    (dss_cons (ds_set (i := 2) sc_code.nd rfl (by first | exact Or.inl rfl | exact Or.inr rfl) (de_call tk G_followers hr (by rfl) g_followers k_followers B_followers rfl (da_cons (do_var (pv 0)) (da_cons (do_var (pv 1)) da_nil))))
    (dss_one (ds_ret (de_minDef rfl hr.units (by rfl) z_min (do_of (de_lc (own := [("end", 3)]) rfl sc_code.nd (di_rng1 (by rfl) z_range (do_of (de_cb cd_len (by rfl) z_len (by decide +kernel) (da_cons (do_var (pv 2)) da_nil)))) (blkOk_by (own := [("end", 3)]) (by first | rfl | decide +kernel)) (fun _ _ _ _ _ => (dg_name sc_code.nd rfl (by first | exact Or.inl rfl | exact Or.inr rfl))) (fun _ _ _ _ _ => dts_nil) (fun _ _ _ _ _ => (de_call takesN0 G_coded hr (by rfl) g_coded k_coded B_coded rfl (da_cons (do_var (pv 2)) (da_cons (do_of (de_call takesN0 G_numbered hr (by rfl) g_numbered k_numbered B_numbered rfl (da_cons (do_var (pv 2)) (da_cons (do_var (pv 3)) da_nil)))) da_nil)))) (by decide))) (do_of (de_tup da_nil)))))))
theorem sc_renamings : FnScope ["after", "its_after", "row", "due", "found", "end", "its_row", "names", "k", "one"] ["after", "its_after"] (defScope s_renamings) := ⟨rfl, rfl, rfl, by decide +kernel, rfl, by decide +kernel, by decide +kernel⟩
set_option maxHeartbeats 4000000 in
theorem ok_renamings {k : Nat} {f : Addr} {fd : FuncData} (F : Fun K "renamings" "renamings" s_renamings f fd) {f_numbered : Addr} {fd_numbered : FuncData} (G_numbered : FnOk P w K mg base (L2N.CX P w) k f_numbered fd_numbered ["after", "begin"] (spD K mg sem_numbered_8309 2)) (g_numbered : mg "numbered" = some (.ref f_numbered)) (k_numbered : PySem.W.keepIn K (.ref f_numbered) = true) (B_numbered : Binds K fd_numbered ["after", "begin"] []) {f_coded : Addr} {fd_coded : FuncData} (G_coded : FnOk P w K mg base (L2N.CX P w) k f_coded fd_coded ["after", "row"] (spD K mg sem_coded_69cd 2)) (g_coded : mg "coded" = some (.ref f_coded)) (k_coded : PySem.W.keepIn K (.ref f_coded) = true) (B_coded : Binds K fd_coded ["after", "row"] []) (z_len : mg "len" = none) (z_range : mg "range" = none) (z_tuple : mg "tuple" = none) :
    FnOk P w K mg base (L2N.CX P w) (k + 1) f fd ["after", "its_after"] (spD K mg (defSem 2 10 b_renamings_c35d) 2) :=
  def_ok (N := ["after", "its_after", "row", "due", "found", "end", "its_row", "names", "k", "one"]) F sc_renamings (by decide) fun cdv A outer s H E hr tk =>
    (dss_cons (ds_if (db_cmp (od_eq hr.units) (do_var (pv 0)) (do_of (de_lst da_nil)) (nomark _)) (dss_one (ds_ret (de_lst (da_cons (do_of (de_tup da_nil)) da_nil)))) dss_nil)
    (dss_cons (ds_set (i := 2) sc_renamings.nd rfl (by first | exact Or.inl rfl | exact Or.inr rfl) (de_call tk G_numbered hr (by rfl) g_numbered k_numbered B_numbered rfl (da_cons (do_var (pv 0)) (da_cons (do_of de_int) da_nil))))
    (dss_cons (ds_set (i := 3) sc_renamings.nd rfl (by first | exact Or.inl rfl | exact Or.inr rfl) (de_call tk G_coded hr (by rfl) g_coded k_coded B_coded rfl (da_cons (do_var (pv 0)) (da_cons (do_var (pv 2)) da_nil))))
    (dss_cons (ds_set (i := 4) sc_renamings.nd rfl (by first | exact Or.inl rfl | exact Or.inr rfl) (de_lst da_nil))
    (dss_cons (ds_for (passes_of rfl) rfl (di_rng1 (by rfl) z_range (do_of (de_cb cd_len (by rfl) z_len (by decide +kernel) (da_cons (do_var (pv 1)) da_nil)))) (dg_name sc_renamings.nd rfl (by first | exact Or.inl rfl | exact Or.inr rfl)) (dss_cons (ds_set (i := 6) sc_renamings.nd rfl (by first | exact Or.inl rfl | exact Or.inr rfl) (de_call tk G_numbered hr (by rfl) g_numbered k_numbered B_numbered rfl (da_cons (do_var (pv 1)) (da_cons (do_var (pv 5)) da_nil))))
    (dss_one (ds_if (db_cmp (od_eq hr.units) (do_of (de_call tk G_coded hr (by rfl) g_coded k_coded B_coded rfl (da_cons (do_var (pv 1)) (da_cons (do_var (pv 6)) da_nil)))) (do_var (pv 3)) (nomark _)) (dss_cons (ds_setLc (i := 7) (own := [("one", 9)]) rfl sc_renamings.nd rfl rfl (sw_true rfl rfl rfl (by decide +kernel)) (di_seq (lo := false) (de_var (pv 2))) (blkOk_by (own := [("one", 9)]) (by first | rfl | decide +kernel)) (fun _ _ _ _ _ => (dg_name sc_renamings.nd rfl (by first | exact Or.inl rfl | exact Or.inr rfl))) (fun _ _ _ _ _ => dts_nil) (fun _ _ _ _ _ => de_int) (by decide))
    (dss_cons (ds_for (passes_of rfl) rfl (di_rng1 (by rfl) z_range (do_of (de_cb cd_len (by rfl) z_len (by decide +kernel) (da_cons (do_var (pv 2)) da_nil)))) (dg_name sc_renamings.nd rfl (by first | exact Or.inl rfl | exact Or.inr rfl)) (dss_one (ds_sub (pv 7) (de_ix ixd_get (do_var (pv 6)) (do_var (pv 8)) (fun _ _ => rfl)) (do_of (de_ix ixd_get (do_var (pv 2)) (do_var (pv 8)) (fun _ _ => rfl))))))
    (dss_one (ds_expr (de_mut PySem.F.plainAttrs_list PySem.F.slot_list_append PySem.F.type_list_append md_append (pv 4) (da_cons (do_of (de_ct cd_tuple (by rfl) z_tuple (by decide +kernel) (da_cons (do_var (pv 7)) da_nil))) da_nil)))))) dss_nil))))
    (dss_one (ds_retS (pv 4))))))))
theorem sc_alike : FnScope ["one", "order", "other", "its_order", "found"] ["one", "order", "other", "its_order"] (defScope s_alike) := ⟨rfl, rfl, rfl, by decide +kernel, rfl, by decide +kernel, by decide +kernel⟩
set_option maxHeartbeats 4000000 in
theorem ok_alike {k : Nat} {f : Addr} {fd : FuncData} (F : Fun K "alike" "alike" s_alike f fd) {f_look_one_part : Addr} {fd_look_one_part : FuncData} (G_look_one_part : FnOk P w K mg base (L2N.CX P w) k f_look_one_part fd_look_one_part ["web"] (spD K mg sem_look_one_part_304cR 1)) (g_look_one_part : mg "look_one_part" = some (.ref f_look_one_part)) (k_look_one_part : PySem.W.keepIn K (.ref f_look_one_part) = true) (B_look_one_part : Binds K fd_look_one_part ["web"] []) {f_renamings : Addr} {fd_renamings : FuncData} (G_renamings : FnOk P w K mg base (L2N.CX P w) k f_renamings fd_renamings ["after", "its_after"] (spD K mg sem_renamings_c35d 2)) (g_renamings : mg "renamings" = some (.ref f_renamings)) (k_renamings : PySem.W.keepIn K (.ref f_renamings) = true) (B_renamings : Binds K fd_renamings ["after", "its_after"] []) {f_followers : Addr} {fd_followers : FuncData} (G_followers : FnOk P w K mg base (L2N.CX P w) k f_followers fd_followers ["web", "order"] (spD K mg sem_followers_13ce 2)) (g_followers : mg "followers" = some (.ref f_followers)) (k_followers : PySem.W.keepIn K (.ref f_followers) = true) (B_followers : Binds K fd_followers ["web", "order"] []) (z_len : mg "len" = none) :
    FnOk P w K mg base (L2N.CX P w) (k + 1) f fd ["one", "order", "other", "its_order"] (spD K mg (defSem 4 5 b_alike_4846R) 4) :=
  def_ok (N := ["one", "order", "other", "its_order", "found"]) F sc_alike (by decide) fun cdv A outer s H E hr tk =>
    (dss_cons (ds_expr (de_call tk G_look_one_part hr (by rfl) g_look_one_part k_look_one_part B_look_one_part rfl (da_cons (do_var (pv 0)) da_nil)))
    (dss_cons (ds_expr (de_call tk G_look_one_part hr (by rfl) g_look_one_part k_look_one_part B_look_one_part rfl (da_cons (do_var (pv 2)) da_nil)))
    (dss_cons (ds_if (db_cmp (od_ne hr.units) (do_of (de_cb cd_len (by rfl) z_len (by decide +kernel) (da_cons (do_of (de_ix ixd_get (do_var (pv 0)) (do_of de_int) (fun _ _ => rfl))) da_nil))) (do_of (de_cb cd_len (by rfl) z_len (by decide +kernel) (da_cons (do_of (de_ix ixd_get (do_var (pv 2)) (do_of de_int) (fun _ _ => rfl))) da_nil))) (nomark _)) (dss_one (ds_ret de_non)) dss_nil)
    (dss_cons (ds_set (i := 4) sc_alike.nd rfl (by first | exact Or.inl rfl | exact Or.inr rfl) (de_call tk G_renamings hr (by rfl) g_renamings k_renamings B_renamings rfl (da_cons (do_of (de_call tk G_followers hr (by rfl) g_followers k_followers B_followers rfl (da_cons (do_var (pv 0)) (da_cons (do_var (pv 1)) da_nil)))) (da_cons (do_of (de_call tk G_followers hr (by rfl) g_followers k_followers B_followers rfl (da_cons (do_var (pv 2)) (da_cons (do_var (pv 3)) da_nil)))) da_nil))))
    (dss_cons (ds_if (db_cmp (od_eq hr.units) (do_var (pv 4)) (do_of (de_lst da_nil)) (nomark _)) (dss_one (ds_ret de_non)) dss_nil)
    (dss_one (ds_ret (de_ix ixd_get (do_var (pv 4)) (do_of de_int) (fun _ _ => rfl)))))))))
theorem sc_turnings : FnScope ["web", "order", "after"] ["web", "order"] (defScope s_turnings) := ⟨rfl, rfl, rfl, by decide +kernel, rfl, by decide +kernel, by decide +kernel⟩
set_option maxHeartbeats 4000000 in
theorem ok_turnings {k : Nat} {f : Addr} {fd : FuncData} (F : Fun K "turnings" "turnings" s_turnings f fd) {f_look_one_part : Addr} {fd_look_one_part : FuncData} (G_look_one_part : FnOk P w K mg base (L2N.CX P w) k f_look_one_part fd_look_one_part ["web"] (spD K mg sem_look_one_part_304cR 1)) (g_look_one_part : mg "look_one_part" = some (.ref f_look_one_part)) (k_look_one_part : PySem.W.keepIn K (.ref f_look_one_part) = true) (B_look_one_part : Binds K fd_look_one_part ["web"] []) {f_followers : Addr} {fd_followers : FuncData} (G_followers : FnOk P w K mg base (L2N.CX P w) k f_followers fd_followers ["web", "order"] (spD K mg sem_followers_13ce 2)) (g_followers : mg "followers" = some (.ref f_followers)) (k_followers : PySem.W.keepIn K (.ref f_followers) = true) (B_followers : Binds K fd_followers ["web", "order"] []) {f_renamings : Addr} {fd_renamings : FuncData} (G_renamings : FnOk P w K mg base (L2N.CX P w) k f_renamings fd_renamings ["after", "its_after"] (spD K mg sem_renamings_c35d 2)) (g_renamings : mg "renamings" = some (.ref f_renamings)) (k_renamings : PySem.W.keepIn K (.ref f_renamings) = true) (B_renamings : Binds K fd_renamings ["after", "its_after"] []) :
    FnOk P w K mg base (L2N.CX P w) (k + 1) f fd ["web", "order"] (spD K mg (defSem 2 3 b_turnings_9f26R) 2) :=
  def_ok (N := ["web", "order", "after"]) F sc_turnings (by decide) fun cdv A outer s H E hr tk =>
    (dss_cons (ds_expr (de_call tk G_look_one_part hr (by rfl) g_look_one_part k_look_one_part B_look_one_part rfl (da_cons (do_var (pv 0)) da_nil)))
    (dss_cons (ds_set (i := 2) sc_turnings.nd rfl (by first | exact Or.inl rfl | exact Or.inr rfl) (de_call tk G_followers hr (by rfl) g_followers k_followers B_followers rfl (da_cons (do_var (pv 0)) (da_cons (do_var (pv 1)) da_nil))))
    (dss_one (ds_ret (de_call tk G_renamings hr (by rfl) g_renamings k_renamings B_renamings rfl (da_cons (do_var (pv 2)) (da_cons (do_var (pv 2)) da_nil)))))))
theorem sc_Lpen : FnScope ["_law_script", "_law_cell"] ["_law_script"] (defScope s_Lpen) := ⟨rfl, rfl, rfl, by decide +kernel, rfl, by decide +kernel, by decide +kernel⟩
set_option maxHeartbeats 4000000 in
theorem ok_Lpen {k : Nat} {f : Addr} {fd : FuncData} (F : Fun K "_law_pen" "_law_pen" s_Lpen f fd) :
    FnOk P w K mg base (L2N.CX P w) (k + 1) f fd ["_law_script"] (spD K mg (defSem 1 2 b_Lpen_3d2f) 1) :=
  def_ok (N := ["_law_script", "_law_cell"]) F sc_Lpen (by decide) fun cdv A outer s H E hr tk =>
    (dss_one (ds_ret (de_lst (da_cons (do_of (de_lc (own := [("_law_cell", 1)]) rfl sc_Lpen.nd (di_seq (lo := false) (de_slice (do_var (pv 0)) dp_none (dp_some (do_of de_int)))) (blkOk_by (own := [("_law_cell", 1)]) (by first | rfl | decide +kernel)) (fun _ _ _ _ _ => (dg_name sc_Lpen.nd rfl (by first | exact Or.inl rfl | exact Or.inr rfl))) (fun _ _ _ _ _ => dts_nil) (fun _ _ _ _ _ => (de_var (pv 1))) (by decide))) (da_cons (do_of de_int) (da_cons (do_of de_int) da_nil))))))
theorem sc_Ldraw : FnScope ["_law_pen_here", "_law_many", "_law_at", "_law_cell", "_law_number", "_law_digit"] ["_law_pen_here", "_law_many"] (defScope s_Ldraw) := ⟨rfl, rfl, rfl, by decide +kernel, rfl, by decide +kernel, by decide +kernel⟩
set_option maxHeartbeats 4000000 in
theorem ok_Ldraw {k : Nat} {f : Addr} {fd : FuncData} (F : Fun K "_law_draw" "_law_draw" s_Ldraw f fd) (z_len : mg "len" = none) (z_abs : mg "abs" = none) :
    FnOk P w K mg base (L2N.CX P w) (k + 1) f fd ["_law_pen_here", "_law_many"] (spD K mg (defSem 2 6 b_Ldraw_de5b) 2) :=
  def_ok (N := ["_law_pen_here", "_law_many", "_law_at", "_law_cell", "_law_number", "_law_digit"]) F sc_Ldraw (by decide) fun cdv A outer s H E hr tk =>
    (dss_cons (ds_if (db_cmp od_gt (do_of (de_ix ixd_get (do_var (pv 0)) (do_of de_int) (fun _ _ => rfl))) (do_of de_int) (nomark _)) (dss_cons (ds_set (i := 5) sc_Ldraw.nd rfl (by first | exact Or.inl rfl | exact Or.inr rfl) (de_bin od_mod (do_of (de_ix ixd_get (do_var (pv 0)) (do_of de_int) (fun _ _ => rfl))) (do_var (pv 1))))
    (dss_cons (ds_sub (pv 0) (de_bin od_div (do_of (de_ix ixd_get (do_var (pv 0)) (do_of de_int) (fun _ _ => rfl))) (do_var (pv 1))) (do_of de_int))
    (dss_one (ds_ret (de_var (pv 5)))))) dss_nil)
    (dss_cons (ds_set (i := 2) sc_Ldraw.nd rfl (by first | exact Or.inl rfl | exact Or.inr rfl) (de_ix ixd_get (do_var (pv 0)) (do_of de_int) (fun _ _ => rfl)))
    (dss_cons (ds_sub (pv 0) (de_bin od_add (do_var (pv 2)) (do_of de_int)) (do_of de_int))
    (dss_cons (ds_set (i := 3) sc_Ldraw.nd rfl (by first | exact Or.inl rfl | exact Or.inr rfl) de_int)
    (dss_cons (ds_if (db_cmp od_gt (do_of (de_cb cd_len (by rfl) z_len (by decide +kernel) (da_cons (do_of (de_ix ixd_get (do_var (pv 0)) (do_of de_int) (fun _ _ => rfl))) da_nil))) (do_of de_int) (nomark _)) (dss_one (ds_set (i := 3) sc_Ldraw.nd rfl (by first | exact Or.inl rfl | exact Or.inr rfl) (de_ix ixd_get (do_of (de_ix ixd_get (do_var (pv 0)) (do_of de_int) (fun _ _ => rfl))) (do_of (de_bin od_mod (do_var (pv 2)) (do_of (de_cb cd_len (by rfl) z_len (by decide +kernel) (da_cons (do_of (de_ix ixd_get (do_var (pv 0)) (do_of de_int) (fun _ _ => rfl))) da_nil))))) (fun _ _ => rfl)))) dss_nil)
    (dss_cons (ds_if (db_w (dw_and (db_cmp od_lt (do_var (pv 2)) (do_of (de_cb cd_len (by rfl) z_len (by decide +kernel) (da_cons (do_of (de_ix ixd_get (do_var (pv 0)) (do_of de_int) (fun _ _ => rfl))) da_nil))) (nomark _)) (dw_and1 (db_cmp od_ge (do_of (de_cb cd_abs (by rfl) z_abs (by decide +kernel) (da_cons (do_var (pv 3)) da_nil))) (do_of (de_bin od_pow (do_of de_int) (do_of de_int))) (nomark _))))) (dss_cons (ds_sub (pv 0) (de_bin od_div (do_of (de_cb cd_abs (by rfl) z_abs (by decide +kernel) (da_cons (do_var (pv 3)) da_nil))) (do_var (pv 1))) (do_of de_int))
    (dss_one (ds_ret (de_bin od_mod (do_of (de_cb cd_abs (by rfl) z_abs (by decide +kernel) (da_cons (do_var (pv 3)) da_nil))) (do_var (pv 1)))))) dss_nil)
    (dss_cons (ds_set (i := 4) sc_Ldraw.nd rfl (by first | exact Or.inl rfl | exact Or.inr rfl) (de_bin od_mod (do_of (de_bin od_mul (do_of (de_bin od_add (do_of (de_bin od_add (do_of (de_bin od_mod (do_var (pv 3)) (do_of de_int))) (do_of (de_bin od_mul (do_of de_int) (do_var (pv 2)))))) (do_of de_int))) (do_of de_int))) (do_of de_int)))
    (dss_cons (ds_set (i := 4) sc_Ldraw.nd rfl (by first | exact Or.inl rfl | exact Or.inr rfl) (de_bin od_mod (do_of (de_bin od_add (do_of (de_bin od_add (do_of (de_bin od_mul (do_var (pv 4)) (do_var (pv 4)))) (do_of (de_bin od_mul (do_of de_int) (do_var (pv 4)))))) (do_var (pv 2)))) (do_of de_int)))
    (dss_one (ds_ret (de_bin od_mod (do_of (de_bin od_div (do_of (de_bin od_mod (do_of (de_bin od_mul (do_var (pv 4)) (do_of de_int))) (do_of de_int))) (do_of de_int))) (do_var (pv 1)))))))))))))
theorem sc_Lweb : FnScope ["_law_pen_here", "_law_places", "_law_ties", "_law_many", "_law_way", "_law_count", "_law_found", "_law_k", "_law_a", "_law_b"] ["_law_pen_here", "_law_places", "_law_ties"] (defScope s_Lweb) := ⟨rfl, rfl, rfl, by decide +kernel, rfl, by decide +kernel, by decide +kernel⟩
set_option maxHeartbeats 4000000 in
theorem ok_Lweb {k : Nat} {f : Addr} {fd : FuncData} (F : Fun K "_law_web" "_law_web" s_Lweb f fd) {f_Ldraw : Addr} {fd_Ldraw : FuncData} (G_Ldraw : FnOk P w K mg base (L2N.CX P w) k f_Ldraw fd_Ldraw ["_law_pen_here", "_law_many"] (spD K mg sem_Ldraw_de5b 2)) (g_Ldraw : mg "_law_draw" = some (.ref f_Ldraw)) (k_Ldraw : PySem.W.keepIn K (.ref f_Ldraw) = true) (B_Ldraw : Binds K fd_Ldraw ["_law_pen_here", "_law_many"] []) (z_range : mg "range" = none) (z_min : mg "min" = none) (z_tuple : mg "tuple" = none) :
    FnOk P w K mg base (L2N.CX P w) (k + 1) f fd ["_law_pen_here", "_law_places", "_law_ties"] (spD K mg (defSem 3 10 b_Lweb_0350) 3) :=
  def_ok (N := ["_law_pen_here", "_law_places", "_law_ties", "_law_many", "_law_way", "_law_count", "_law_found", "_law_k", "_law_a", "_law_b"]) F sc_Lweb (by decide) fun cdv A outer s H E hr tk =>
    (dss_cons (ds_set (i := 3) sc_Lweb.nd rfl (by first | exact Or.inl rfl | exact Or.inr rfl) (de_bin od_add (do_of de_int) (do_of (de_call tk G_Ldraw hr (by rfl) g_Ldraw k_Ldraw B_Ldraw rfl (da_cons (do_var (pv 0)) (da_cons (do_var (pv 1)) da_nil))))))
    (dss_cons (ds_set (i := 4) sc_Lweb.nd rfl (by first | exact Or.inl rfl | exact Or.inr rfl) (de_call tk G_Ldraw hr (by rfl) g_Ldraw k_Ldraw B_Ldraw rfl (da_cons (do_var (pv 0)) (da_cons (do_of de_int) da_nil))))
    (dss_cons (ds_set (i := 5) sc_Lweb.nd rfl (by first | exact Or.inl rfl | exact Or.inr rfl) (de_call tk G_Ldraw hr (by rfl) g_Ldraw k_Ldraw B_Ldraw rfl (da_cons (do_var (pv 0)) (da_cons (do_of (de_bin od_add (do_var (pv 2)) (do_of de_int))) da_nil))))
    (dss_cons (ds_if (db_cmp (od_eq hr.units) (do_var (pv 4)) (do_of de_int) (nomark _)) (dss_cons (ds_set (i := 3) sc_Lweb.nd rfl (by first | exact Or.inl rfl | exact Or.inr rfl) (de_var (pv 1)))
    (dss_one (ds_set (i := 5) sc_Lweb.nd rfl (by first | exact Or.inl rfl | exact Or.inr rfl) (de_var (pv 2))))) dss_nil)
    (dss_cons (ds_set (i := 6) sc_Lweb.nd rfl (by first | exact Or.inl rfl | exact Or.inr rfl) (de_lst da_nil))
    (dss_cons (ds_for (passes_of rfl) rfl (di_rng1 (by rfl) z_range (do_var (pv 5))) (dg_name sc_Lweb.nd rfl (by first | exact Or.inl rfl | exact Or.inr rfl)) (dss_cons (ds_par (i := 8) (j := 9) rfl sc_Lweb.nd rfl rfl (by decide) rfl rfl (de_call tk G_Ldraw hr (by rfl) g_Ldraw k_Ldraw B_Ldraw rfl (da_cons (do_var (pv 0)) (da_cons (do_var (pv 3)) da_nil))) (de_call tk G_Ldraw hr (by rfl) g_Ldraw k_Ldraw B_Ldraw rfl (da_cons (do_var (pv 0)) (da_cons (do_var (pv 3)) da_nil))) (by rfl))
    (dss_cons (ds_if (db_cmp (od_eq hr.units) (do_var (pv 4)) (do_of de_int) (nomark _)) (dss_one (ds_par (i := 8) (j := 9) rfl sc_Lweb.nd rfl rfl (by decide) rfl rfl (de_bin od_mod (do_var (pv 7)) (do_var (pv 3))) (de_bin od_mod (do_of (de_bin od_add (do_var (pv 7)) (do_of de_int))) (do_var (pv 3))) (by rfl))) dss_nil)
    (dss_cons (ds_if (db_cmp (od_eq hr.units) (do_var (pv 4)) (do_of de_int) (nomark _)) (dss_one (ds_set (i := 8) sc_Lweb.nd rfl (by first | exact Or.inl rfl | exact Or.inr rfl) de_int)) dss_nil)
    (dss_cons (ds_if (db_cmp (od_eq hr.units) (do_var (pv 4)) (do_of de_int) (nomark _)) (dss_one (ds_set (i := 9) sc_Lweb.nd rfl (by first | exact Or.inl rfl | exact Or.inr rfl) (de_bin od_add (do_of (de_bin od_mod (do_var (pv 8)) (do_of de_int))) (do_of (de_bin od_mul (do_of (de_bin od_div (do_var (pv 9)) (do_of de_int))) (do_of de_int)))))) dss_nil)
    (dss_cons (ds_if (db_w (dw_and (db_cmp (od_eq hr.units) (do_var (pv 4)) (do_of de_int) (nomark _)) (dw_and1 (db_cmp (od_eq hr.units) (do_of (de_bin od_mod (do_var (pv 9)) (do_of de_int))) (do_of de_int) (nomark _))))) (dss_one (ds_set (i := 9) sc_Lweb.nd rfl (by first | exact Or.inl rfl | exact Or.inr rfl) (de_var (pv 8)))) dss_nil)
    (dss_one (ds_expr (de_mut PySem.F.plainAttrs_list PySem.F.slot_list_append PySem.F.type_list_append md_append (pv 6) (da_cons (do_of (de_tup (da_cons (do_of (de_var (pv 8))) (da_cons (do_of (de_cb (cd_min2 rfl) (by rfl) z_min (by decide +kernel) (da_cons (do_var (pv 9)) (da_cons (do_of (de_bin od_sub (do_var (pv 3)) (do_of de_int))) da_nil)))) da_nil)))) da_nil))))))))))
    (dss_one (ds_ret (de_tup (da_cons (do_of (de_var (pv 3))) (da_cons (do_of (de_ct cd_tuple (by rfl) z_tuple (by decide +kernel) (da_cons (do_var (pv 6)) da_nil))) da_nil)))))))))))
theorem sc_Lorder : FnScope ["_law_pen_here", "_law_web_here", "_law_rows", "_law_k", "_law_row", "_law_place"] ["_law_pen_here", "_law_web_here"] (defScope s_Lorder) := ⟨rfl, rfl, rfl, by decide +kernel, rfl, by decide +kernel, by decide +kernel⟩
set_option maxHeartbeats 4000000 in
theorem ok_Lorder {k : Nat} {f : Addr} {fd : FuncData} (F : Fun K "_law_order" "_law_order" s_Lorder f fd) {f_Ldraw : Addr} {fd_Ldraw : FuncData} (G_Ldraw : FnOk P w K mg base (L2N.CX P w) k f_Ldraw fd_Ldraw ["_law_pen_here", "_law_many"] (spD K mg sem_Ldraw_de5b 2)) (g_Ldraw : mg "_law_draw" = some (.ref f_Ldraw)) (k_Ldraw : PySem.W.keepIn K (.ref f_Ldraw) = true) (B_Ldraw : Binds K fd_Ldraw ["_law_pen_here", "_law_many"] []) (z_range : mg "range" = none) (z_len : mg "len" = none) (z_max : mg "max" = none) (z_min : mg "min" = none) (z_tuple : mg "tuple" = none) :
    FnOk P w K mg base (L2N.CX P w) (k + 1) f fd ["_law_pen_here", "_law_web_here"] (spD K mg (defSem 2 6 b_Lorder_8e8e) 2) :=
  def_ok (N := ["_law_pen_here", "_law_web_here", "_law_rows", "_law_k", "_law_row", "_law_place"]) F sc_Lorder (by decide) fun cdv A outer s H E hr tk =>
    (dss_cons (ds_setLcL (i := 2) (own := [("_law_place", 5)]) rfl sc_Lorder.nd rfl rfl (sw_true rfl rfl rfl (by decide +kernel)) (di_rng1 (by rfl) z_range (do_of (de_ix ixd_get (do_var (pv 1)) (do_of de_int) (fun _ _ => rfl)))) (blkOk_by (own := [("_law_place", 5)]) (by first | rfl | decide +kernel)) (fun _ _ _ _ _ => (dg_name sc_Lorder.nd rfl (by first | exact Or.inl rfl | exact Or.inr rfl))) (fun _ _ _ _ _ => dts_nil) (fun _ _ _ _ _ => (de_lst da_nil)) (by decide))
    (dss_cons (ds_for (passes_of rfl) rfl (di_rng1 (by rfl) z_range (do_of (de_bin od_mul (do_of de_int) (do_of (de_cb cd_len (by rfl) z_len (by decide +kernel) (da_cons (do_of (de_ix ixd_get (do_var (pv 1)) (do_of de_int) (fun _ _ => rfl))) da_nil)))))) (dg_name sc_Lorder.nd rfl (by first | exact Or.inl rfl | exact Or.inr rfl)) (dss_cons (ds_al sc_Lorder.nd rfl (by first | exact Or.inl rfl | exact Or.inr rfl) (pv 2) (do_of (de_ix ixd_get (do_of (de_ix ixd_get (do_of (de_ix ixd_get (do_var (pv 1)) (do_of de_int) (fun _ _ => rfl))) (do_of (de_bin od_div (do_var (pv 3)) (do_of de_int))) (fun _ _ => rfl))) (do_of (de_bin od_mod (do_var (pv 3)) (do_of de_int))) (fun _ _ => rfl))) (fun _ _ => rfl))
    (dss_one (ds_expr (de_mut PySem.F.plainAttrs_list PySem.F.slot_list_insert PySem.F.type_list_insert md_insert (pv 4) (da_cons (do_of (de_cb (cd_min2 rfl) (by rfl) z_min (by decide +kernel) (da_cons (do_of (de_cb cd_len (by rfl) z_len (by decide +kernel) (da_cons (do_var (pv 4)) da_nil))) (da_cons (do_of (de_bin od_add (do_of de_int) (do_of (de_call tk G_Ldraw hr (by rfl) g_Ldraw k_Ldraw B_Ldraw rfl (da_cons (do_var (pv 0)) (da_cons (do_of (de_cb (cd_max2 rfl) (by rfl) z_max (by decide +kernel) (da_cons (do_of de_int) (da_cons (do_of (de_cb cd_len (by rfl) z_len (by decide +kernel) (da_cons (do_var (pv 4)) da_nil))) da_nil)))) da_nil)))))) da_nil)))) (da_cons (do_of (de_var (pv 3))) da_nil)))))))
    (dss_one (ds_ret (de_ct cd_tuple (by rfl) z_tuple (by decide +kernel) (da_cons (do_of (de_lc (own := [("_law_row", 4)]) rfl sc_Lorder.nd (di_seq (lo := false) (de_var (pv 2))) (blkOk_by (own := [("_law_row", 4)]) (by first | rfl | decide +kernel)) (fun _ _ _ _ _ => (dg_name sc_Lorder.nd rfl (by first | exact Or.inl rfl | exact Or.inr rfl))) (fun _ _ _ _ _ => dts_nil) (fun _ _ _ _ _ => (de_ct cd_tuple (by rfl) z_tuple (by decide +kernel) (da_cons (do_var (pv 4)) da_nil))) (by decide))) da_nil))))))
theorem sc_Lparts : FnScope ["_law_web_here", "_law_marks", "_law_a", "_law_b", "_law_place", "_law_low", "_law_high", "_law_first"] ["_law_web_here"] (defScope s_Lparts) := ⟨rfl, rfl, rfl, by decide +kernel, rfl, by decide +kernel, by decide +kernel⟩
set_option maxHeartbeats 4000000 in
theorem ok_Lparts {k : Nat} {f : Addr} {fd : FuncData} (F : Fun K "_law_parts" "_law_parts" s_Lparts f fd) (z_list : mg "list" = none) (z_range : mg "range" = none) (z_min : mg "min" = none) (z_max : mg "max" = none) (z_sorted : mg "sorted" = none) (z_set : mg "set" = none) :
    FnOk P w K mg base (L2N.CX P w) (k + 1) f fd ["_law_web_here"] (spD K mg (defSem 1 8 b_Lparts_9bff) 1) :=
  def_ok (N := ["_law_web_here", "_law_marks", "_law_a", "_law_b", "_law_place", "_law_low", "_law_high", "_law_first"]) F sc_Lparts (by decide) fun cdv A outer s H E hr tk =>
    (dss_cons (ds_set (i := 1) sc_Lparts.nd rfl (by first | exact Or.inl rfl | exact Or.inr rfl) (de_lrng1 rfl (by rfl) z_list (by rfl) z_range (do_of (de_ix ixd_get (do_var (pv 0)) (do_of de_int) (fun _ _ => rfl)))))
    (dss_cons (ds_for (passes_of rfl) rfl (di_seq (lo := false) (de_ix ixd_get (do_var (pv 0)) (do_of de_int) (fun _ _ => rfl))) (dg_tup rfl (dgs_cons (dg_name sc_Lparts.nd rfl (by first | exact Or.inl rfl | exact Or.inr rfl)) (dgs_cons (dg_name sc_Lparts.nd rfl (by first | exact Or.inl rfl | exact Or.inr rfl)) dgs_nil))) (dss_cons (ds_par (i := 5) (j := 6) rfl sc_Lparts.nd rfl rfl (by decide) rfl rfl (de_cb (cd_min2 rfl) (by rfl) z_min (by decide +kernel) (da_cons (do_of (de_ix ixd_get (do_var (pv 1)) (do_var (pv 2)) (fun _ _ => rfl))) (da_cons (do_of (de_ix ixd_get (do_var (pv 1)) (do_var (pv 3)) (fun _ _ => rfl))) da_nil))) (de_cb (cd_max2 rfl) (by rfl) z_max (by decide +kernel) (da_cons (do_of (de_ix ixd_get (do_var (pv 1)) (do_var (pv 2)) (fun _ _ => rfl))) (da_cons (do_of (de_ix ixd_get (do_var (pv 1)) (do_var (pv 3)) (fun _ _ => rfl))) da_nil))) (by rfl))
    (dss_one (ds_for (passes_of rfl) rfl (di_rng1 (by rfl) z_range (do_of (de_ix ixd_get (do_var (pv 0)) (do_of de_int) (fun _ _ => rfl)))) (dg_name sc_Lparts.nd rfl (by first | exact Or.inl rfl | exact Or.inr rfl)) (dss_one (ds_if (db_cmp (od_eq hr.units) (do_of (de_ix ixd_get (do_var (pv 1)) (do_var (pv 4)) (fun _ _ => rfl))) (do_var (pv 6)) (nomark _)) (dss_one (ds_sub (pv 1) (de_var (pv 5)) (do_var (pv 4)))) dss_nil))))))
    (dss_one (ds_ret (de_lc (own := [("_law_first", 7)]) rfl sc_Lparts.nd (di_seq (lo := false) (de_sortset rfl (by rfl) z_sorted (by rfl) z_set (do_var (pv 1)))) (blkOk_by (own := [("_law_first", 7)]) (by first | rfl | decide +kernel)) (fun _ _ _ _ _ => (dg_name sc_Lparts.nd rfl (by first | exact Or.inl rfl | exact Or.inr rfl))) (fun _ _ _ _ _ => dts_nil) (fun _ _ _ _ _ => (de_lc (own := [("_law_place", 4)]) rfl sc_Lparts.nd (di_rng1 (by rfl) z_range (do_of (de_ix ixd_get (do_var (pv 0)) (do_of de_int) (fun _ _ => rfl)))) (blkOk_by (own := [("_law_place", 4)]) (by first | rfl | decide +kernel)) (fun _ _ _ _ _ => (dg_name sc_Lparts.nd rfl (by first | exact Or.inl rfl | exact Or.inr rfl))) (fun _ _ _ _ _ => (dts_one (db_cmp (od_eq hr.units) (do_of (de_ix ixd_get (do_var (pv 1)) (do_var (pv 4)) (fun _ _ => rfl))) (do_var (pv 7)) (nomark _)))) (fun _ _ _ _ _ => (de_var (pv 4))) (by decide))) (by decide))))))
theorem sc_Lturnings : FnScope ["_law_asked"] ["_law_asked"] (defScope s_Lturnings) := ⟨rfl, rfl, rfl, by decide +kernel, rfl, by decide +kernel, by decide +kernel⟩
set_option maxHeartbeats 4000000 in
theorem ok_Lturnings {k : Nat} {f : Addr} {fd : FuncData} (F : Fun K "_law_turnings" "_law_turnings" s_Lturnings f fd) {f_turnings : Addr} {fd_turnings : FuncData} (G_turnings : FnOk P w K mg base (L2N.CX P w) k f_turnings fd_turnings ["web", "order"] (spD K mg sem_turnings_9f26R 2)) (g_turnings : mg "turnings" = some (.ref f_turnings)) (k_turnings : PySem.W.keepIn K (.ref f_turnings) = true) (B_turnings : Binds K fd_turnings ["web", "order"] []) :
    FnOk P w K mg base (L2N.CX P w) (k + 1) f fd ["_law_asked"] (spD K mg (defSem 1 1 b_Lturnings_e7f3R) 1) :=
  def_ok (N := ["_law_asked"]) F sc_Lturnings (by decide) fun cdv A outer s H E hr tk =>
    (dss_one (ds_ret (de_call tk G_turnings hr (by rfl) g_turnings k_turnings B_turnings rfl (da_cons (do_of (de_ix ixd_get (do_var (pv 0)) (do_of de_int) (fun _ _ => rfl))) (da_cons (do_of (de_ix ixd_get (do_var (pv 0)) (do_of de_int) (fun _ _ => rfl))) da_nil)))))
theorem sc_Lcode_from : FnScope ["_law_asked"] ["_law_asked"] (defScope s_Lcode_from) := ⟨rfl, rfl, rfl, by decide +kernel, rfl, by decide +kernel, by decide +kernel⟩
set_option maxHeartbeats 4000000 in
theorem ok_Lcode_from {k : Nat} {f : Addr} {fd : FuncData} (F : Fun K "_law_code_from" "_law_code_from" s_Lcode_from f fd) {f_code_from : Addr} {fd_code_from : FuncData} (G_code_from : FnOk P w K mg base (L2N.CX P w) k f_code_from fd_code_from ["web", "order", "end"] (spD K mg sem_code_from_7a97R 3)) (g_code_from : mg "code_from" = some (.ref f_code_from)) (k_code_from : PySem.W.keepIn K (.ref f_code_from) = true) (B_code_from : Binds K fd_code_from ["web", "order", "end"] []) :
    FnOk P w K mg base (L2N.CX P w) (k + 1) f fd ["_law_asked"] (spD K mg (defSem 1 1 b_Lcode_from_df70R) 1) :=
  def_ok (N := ["_law_asked"]) F sc_Lcode_from (by decide) fun cdv A outer s H E hr tk =>
    (dss_one (ds_ret (de_call tk G_code_from hr (by rfl) g_code_from k_code_from B_code_from rfl (da_cons (do_of (de_ix ixd_get (do_var (pv 0)) (do_of de_int) (fun _ _ => rfl))) (da_cons (do_of (de_ix ixd_get (do_var (pv 0)) (do_of de_int) (fun _ _ => rfl))) (da_cons (do_of (de_ix ixd_get (do_var (pv 0)) (do_of de_int) (fun _ _ => rfl))) da_nil))))))
theorem sc_Lcode : FnScope ["_law_asked"] ["_law_asked"] (defScope s_Lcode) := ⟨rfl, rfl, rfl, by decide +kernel, rfl, by decide +kernel, by decide +kernel⟩
set_option maxHeartbeats 4000000 in
theorem ok_Lcode {k : Nat} {f : Addr} {fd : FuncData} (F : Fun K "_law_code" "_law_code" s_Lcode f fd) {f_code : Addr} {fd_code : FuncData} (G_code : FnOk P w K mg base (L2N.CX P w) k f_code fd_code ["web", "order"] (spD K mg sem_code_8358R 2)) (g_code : mg "code" = some (.ref f_code)) (k_code : PySem.W.keepIn K (.ref f_code) = true) (B_code : Binds K fd_code ["web", "order"] []) :
    FnOk P w K mg base (L2N.CX P w) (k + 1) f fd ["_law_asked"] (spD K mg (defSem 1 1 b_Lcode_e2cbR) 1) :=
  def_ok (N := ["_law_asked"]) F sc_Lcode (by decide) fun cdv A outer s H E hr tk =>
    (dss_one (ds_ret (de_call tk G_code hr (by rfl) g_code k_code B_code rfl (da_cons (do_of (de_ix ixd_get (do_var (pv 0)) (do_of de_int) (fun _ _ => rfl))) (da_cons (do_of (de_ix ixd_get (do_var (pv 0)) (do_of de_int) (fun _ _ => rfl))) da_nil)))))
theorem sc_Lalike : FnScope ["_law_asked"] ["_law_asked"] (defScope s_Lalike) := ⟨rfl, rfl, rfl, by decide +kernel, rfl, by decide +kernel, by decide +kernel⟩
set_option maxHeartbeats 4000000 in
theorem ok_Lalike {k : Nat} {f : Addr} {fd : FuncData} (F : Fun K "_law_alike" "_law_alike" s_Lalike f fd) {f_alike : Addr} {fd_alike : FuncData} (G_alike : FnOk P w K mg base (L2N.CX P w) k f_alike fd_alike ["one", "order", "other", "its_order"] (spD K mg sem_alike_4846R 4)) (g_alike : mg "alike" = some (.ref f_alike)) (k_alike : PySem.W.keepIn K (.ref f_alike) = true) (B_alike : Binds K fd_alike ["one", "order", "other", "its_order"] []) :
    FnOk P w K mg base (L2N.CX P w) (k + 1) f fd ["_law_asked"] (spD K mg (defSem 1 1 b_Lalike_7b14R) 1) :=
  def_ok (N := ["_law_asked"]) F sc_Lalike (by decide) fun cdv A outer s H E hr tk =>
    (dss_one (ds_ret (de_call tk G_alike hr (by rfl) g_alike k_alike B_alike rfl (da_cons (do_of (de_ix ixd_get (do_var (pv 0)) (do_of de_int) (fun _ _ => rfl))) (da_cons (do_of (de_ix ixd_get (do_var (pv 0)) (do_of de_int) (fun _ _ => rfl))) (da_cons (do_of (de_ix ixd_get (do_var (pv 0)) (do_of de_int) (fun _ _ => rfl))) (da_cons (do_of (de_ix ixd_get (do_var (pv 0)) (do_of de_int) (fun _ _ => rfl))) da_nil)))))))
theorem sc_Lrefusal : FnScope ["_law_call", "_law_things", "e", "_law_found", "_law_k"] ["_law_call", "_law_things"] (defScope s_Lrefusal) := ⟨rfl, rfl, rfl, by decide +kernel, rfl, by decide +kernel, by decide +kernel⟩
set_option maxHeartbeats 4000000 in
theorem ok_Lrefusal {k : Nat} {f : Addr} {fd : FuncData} (F : Fun K "_law_refusal" "_law_refusal" s_Lrefusal f fd) {f_Lturnings : Addr} {fd_Lturnings : FuncData} (G_Lturnings : FnOk P w K mg base (L2N.CX P w) k f_Lturnings fd_Lturnings ["_law_asked"] (spD K mg sem_Lturnings_e7f3R 1)) (g_Lturnings : mg "_law_turnings" = some (.ref f_Lturnings)) (k_Lturnings : PySem.W.keepIn K (.ref f_Lturnings) = true) (B_Lturnings : Binds K fd_Lturnings ["_law_asked"] []) {f_Lcode_from : Addr} {fd_Lcode_from : FuncData} (G_Lcode_from : FnOk P w K mg base (L2N.CX P w) k f_Lcode_from fd_Lcode_from ["_law_asked"] (spD K mg sem_Lcode_from_df70R 1)) (g_Lcode_from : mg "_law_code_from" = some (.ref f_Lcode_from)) (k_Lcode_from : PySem.W.keepIn K (.ref f_Lcode_from) = true) (B_Lcode_from : Binds K fd_Lcode_from ["_law_asked"] []) {f_Lcode : Addr} {fd_Lcode : FuncData} (G_Lcode : FnOk P w K mg base (L2N.CX P w) k f_Lcode fd_Lcode ["_law_asked"] (spD K mg sem_Lcode_e2cbR 1)) (g_Lcode : mg "_law_code" = some (.ref f_Lcode)) (k_Lcode : PySem.W.keepIn K (.ref f_Lcode) = true) (B_Lcode : Binds K fd_Lcode ["_law_asked"] []) {f_Lalike : Addr} {fd_Lalike : FuncData} (G_Lalike : FnOk P w K mg base (L2N.CX P w) k f_Lalike fd_Lalike ["_law_asked"] (spD K mg sem_Lalike_7b14R 1)) (g_Lalike : mg "_law_alike" = some (.ref f_Lalike)) (k_Lalike : PySem.W.keepIn K (.ref f_Lalike) = true) (B_Lalike : Binds K fd_Lalike ["_law_asked"] []) (a_Lturnings : PySem.W.nsIn K mainGlobals "_law_turnings" = some (some (.ref f_Lturnings))) (a_Lcode_from : PySem.W.nsIn K mainGlobals "_law_code_from" = some (some (.ref f_Lcode_from))) (a_Lcode : PySem.W.nsIn K mainGlobals "_law_code" = some (some (.ref f_Lcode))) (a_Lalike : PySem.W.nsIn K mainGlobals "_law_alike" = some (some (.ref f_Lalike))) (z_isinstance : mg "isinstance" = none) (z_ValueError : mg "ValueError" = none) (z_range : mg "range" = none) {C_NoWeb : Addr} {C_Apart : Addr} {C_NoOrder : Addr} {C_NoNumber : Addr} {C_NoEnd : Addr} {C_NoTie : Addr} {C_NoPlace : Addr} {C_NoTable : Addr} {C_NoRing : Addr} {C_NoPaper : Addr} {C_TooMany : Addr} {C_TooGreat : Addr} {C_NoText : Addr} {C_NoName : Addr} {C_NoRow : Addr} {C_FloorError : Addr} (gx_NoWeb : mg "NoWeb" = some (.ref C_NoWeb)) (xc_Apart : ExcC K C_Apart) (kk_Apart_NoWeb : PySem.W.kitOne K (.ref C_Apart) (.ref C_NoWeb) = some false) (gx_NoOrder : mg "NoOrder" = some (.ref C_NoOrder)) (kk_Apart_NoOrder : PySem.W.kitOne K (.ref C_Apart) (.ref C_NoOrder) = some false) (gx_NoNumber : mg "NoNumber" = some (.ref C_NoNumber)) (kk_Apart_NoNumber : PySem.W.kitOne K (.ref C_Apart) (.ref C_NoNumber) = some false) (gx_NoEnd : mg "NoEnd" = some (.ref C_NoEnd)) (kk_Apart_NoEnd : PySem.W.kitOne K (.ref C_Apart) (.ref C_NoEnd) = some false) (gx_NoTie : mg "NoTie" = some (.ref C_NoTie)) (kk_Apart_NoTie : PySem.W.kitOne K (.ref C_Apart) (.ref C_NoTie) = some false) (gx_NoPlace : mg "NoPlace" = some (.ref C_NoPlace)) (kk_Apart_NoPlace : PySem.W.kitOne K (.ref C_Apart) (.ref C_NoPlace) = some false) (gx_NoTable : mg "NoTable" = some (.ref C_NoTable)) (kk_Apart_NoTable : PySem.W.kitOne K (.ref C_Apart) (.ref C_NoTable) = some false) (gx_NoRing : mg "NoRing" = some (.ref C_NoRing)) (kk_Apart_NoRing : PySem.W.kitOne K (.ref C_Apart) (.ref C_NoRing) = some false) (gx_NoPaper : mg "NoPaper" = some (.ref C_NoPaper)) (kk_Apart_NoPaper : PySem.W.kitOne K (.ref C_Apart) (.ref C_NoPaper) = some false) (gx_Apart : mg "Apart" = some (.ref C_Apart)) (kk_Apart_Apart : PySem.W.kitOne K (.ref C_Apart) (.ref C_Apart) = some true) (gx_TooMany : mg "TooMany" = some (.ref C_TooMany)) (kk_Apart_TooMany : PySem.W.kitOne K (.ref C_Apart) (.ref C_TooMany) = some false) (gx_TooGreat : mg "TooGreat" = some (.ref C_TooGreat)) (kk_Apart_TooGreat : PySem.W.kitOne K (.ref C_Apart) (.ref C_TooGreat) = some false) (gx_NoText : mg "NoText" = some (.ref C_NoText)) (kk_Apart_NoText : PySem.W.kitOne K (.ref C_Apart) (.ref C_NoText) = some false) (gx_NoName : mg "NoName" = some (.ref C_NoName)) (kk_Apart_NoName : PySem.W.kitOne K (.ref C_Apart) (.ref C_NoName) = some false) (gx_NoRow : mg "NoRow" = some (.ref C_NoRow)) (kk_Apart_NoRow : PySem.W.kitOne K (.ref C_Apart) (.ref C_NoRow) = some false) (kk_Apart_ValueError : PySem.W.kitOne K (.ref C_Apart) (.type "ValueError") = some true) (x_Apart : ExK K mg "Apart" C_Apart) (xe_Apart_FloorError : PySem.W.exmOne K (.ref C_Apart) (.ref C_FloorError) = some true) (gx_FloorError : mg "FloorError" = some (.ref C_FloorError)) :
    FnOk P w K mg base (L2N.CX P w) (k + 1) f fd ["_law_call", "_law_things"] (spD K mg (defSem 2 5 b_Lrefusal_a658R) 2) :=
  def_ok (N := ["_law_call", "_law_things", "e", "_law_found", "_law_k"]) F sc_Lrefusal (by decide) fun cdv A outer s H E hr tk =>
    (dss_cons (ds_tryS (i := 2) (L := ["Apart"]) (ms := (fun _ => (sSeq (sSet 3 (mOp gLst [(oE (mC (.bool false))), (oE (mC (.bool false))), (oE (mC (.bool false))), (oE (mC (.bool false)))])) (sSeq (sSet 3 (mOp gAdd [(oS 3), (oE (mOp gLst [(oE (mC (.bool false))), (oE (mC (.bool false))), (oE (mC (.bool false))), (oE (mC (.bool false)))]))])) (sSeq (sSet 3 (mOp gAdd [(oS 3), (oE (mOp gLst [(oE (mC (.bool false))), (oE (mC (.bool true))), (oE (mC (.bool false))), (oE (mC (.bool false)))]))])) (sSeq (sSet 3 (mOp gAdd [(oS 3), (oE (mOp gLst [(oE (mC (.bool false))), (oE (mC (.bool false))), (oE (mC (.bool false)))]))])) (sRet (mLc [4] (mOpL gRng1 [(oE (mC (.int 15)))]) (setN 4) (mTst (mOp gIx [(oS 3), (oS 4)])) (mRd 4))))))))) rfl rfl sc_Lrefusal.nd rfl rfl ⟨by rfl, by decide, .inl gx_FloorError⟩ tk (fun _ _ _ tk _ => (dss_one (ds_expr (de_callV (n := 1) tk (tbl_cons ⟨⟨f_Lalike, fd_Lalike, _, G_Lalike, a_Lalike, k_Lalike, B_Lalike, rfl⟩⟩ (tbl_cons ⟨⟨f_Lcode, fd_Lcode, _, G_Lcode, a_Lcode, k_Lcode, B_Lcode, rfl⟩⟩ (tbl_cons ⟨⟨f_Lcode_from, fd_Lcode_from, _, G_Lcode_from, a_Lcode_from, k_Lcode_from, B_Lcode_from, rfl⟩⟩ (tbl_cons ⟨⟨f_Lturnings, fd_Lturnings, _, G_Lturnings, a_Lturnings, k_Lturnings, B_Lturnings, rfl⟩⟩ tbl_nil)))) hr (pv 0) rfl (da_cons (do_of (de_var (pv 1))) da_nil))))) (one_L x_Apart.gC xe_Apart_FloorError) (one_LS (P := fun _ C => ∀ (a : Addr) (oe : Obj) (pn : List (Addr × Obj)), L2N.Zn (.ref C) none oe → (∃ vs, oe.data = .fields vs) → PSs _ (_ :: _) _) x_Apart.gC (fun a oe pn hz hf => (dxx_set (j := 3) sc_Lrefusal.nd rfl (by first | exact Or.inl rfl | exact Or.inr rfl) (dex_lst (dax_cons (dex_isi xc_Apart hz hf (by rfl) z_isinstance (pv 2) (pe_glob (v := .ref C_NoWeb) (by rfl) gx_NoWeb rfl) (.own _) kk_Apart_NoWeb) (dax_cons (dex_isi xc_Apart hz hf (by rfl) z_isinstance (pv 2) (pe_glob (v := .ref C_NoOrder) (by rfl) gx_NoOrder rfl) (.own _) kk_Apart_NoOrder) (dax_cons (dex_isi xc_Apart hz hf (by rfl) z_isinstance (pv 2) (pe_glob (v := .ref C_NoNumber) (by rfl) gx_NoNumber rfl) (.own _) kk_Apart_NoNumber) (dax_cons (dex_isi xc_Apart hz hf (by rfl) z_isinstance (pv 2) (pe_glob (v := .ref C_NoEnd) (by rfl) gx_NoEnd rfl) (.own _) kk_Apart_NoEnd) dax_nil))))) (dxx_set (j := 3) sc_Lrefusal.nd rfl (by first | exact Or.inl rfl | exact Or.inr rfl) (dex_bin od_add (do_var (pv 3)) (dex_lst (dax_cons (dex_isi xc_Apart hz hf (by rfl) z_isinstance (pv 2) (pe_glob (v := .ref C_NoTie) (by rfl) gx_NoTie rfl) (.own _) kk_Apart_NoTie) (dax_cons (dex_isi xc_Apart hz hf (by rfl) z_isinstance (pv 2) (pe_glob (v := .ref C_NoPlace) (by rfl) gx_NoPlace rfl) (.own _) kk_Apart_NoPlace) (dax_cons (dex_isi xc_Apart hz hf (by rfl) z_isinstance (pv 2) (pe_glob (v := .ref C_NoTable) (by rfl) gx_NoTable rfl) (.own _) kk_Apart_NoTable) (dax_cons (dex_isi xc_Apart hz hf (by rfl) z_isinstance (pv 2) (pe_glob (v := .ref C_NoRing) (by rfl) gx_NoRing rfl) (.own _) kk_Apart_NoRing) dax_nil)))))) (dxx_set (j := 3) sc_Lrefusal.nd rfl (by first | exact Or.inl rfl | exact Or.inr rfl) (dex_bin od_add (do_var (pv 3)) (dex_lst (dax_cons (dex_isi xc_Apart hz hf (by rfl) z_isinstance (pv 2) (pe_glob (v := .ref C_NoPaper) (by rfl) gx_NoPaper rfl) (.own _) kk_Apart_NoPaper) (dax_cons (dex_isi xc_Apart hz hf (by rfl) z_isinstance (pv 2) (pe_glob (v := .ref C_Apart) (by rfl) gx_Apart rfl) (.own _) kk_Apart_Apart) (dax_cons (dex_isi xc_Apart hz hf (by rfl) z_isinstance (pv 2) (pe_glob (v := .ref C_TooMany) (by rfl) gx_TooMany rfl) (.own _) kk_Apart_TooMany) (dax_cons (dex_isi xc_Apart hz hf (by rfl) z_isinstance (pv 2) (pe_glob (v := .ref C_TooGreat) (by rfl) gx_TooGreat rfl) (.own _) kk_Apart_TooGreat) dax_nil)))))) (dxx_set (j := 3) sc_Lrefusal.nd rfl (by first | exact Or.inl rfl | exact Or.inr rfl) (dex_bin od_add (do_var (pv 3)) (dex_lst (dax_cons (dex_isi xc_Apart hz hf (by rfl) z_isinstance (pv 2) (pe_glob (v := .ref C_NoText) (by rfl) gx_NoText rfl) (.own _) kk_Apart_NoText) (dax_cons (dex_isi xc_Apart hz hf (by rfl) z_isinstance (pv 2) (pe_glob (v := .ref C_NoName) (by rfl) gx_NoName rfl) (.own _) kk_Apart_NoName) (dax_cons (dex_isi xc_Apart hz hf (by rfl) z_isinstance (pv 2) (pe_glob (v := .ref C_NoRow) (by rfl) gx_NoRow rfl) (.own _) kk_Apart_NoRow) dax_nil))))) (dxx_skipNot (dex_isi xc_Apart hz hf (by rfl) z_isinstance (pv 2) (pe_bltn (v := .ty "ValueError") (by rfl) z_ValueError (by rfl) rfl) (.ty _) kk_Apart_ValueError) (dxx_of (dss_one (ds_ret (de_lcK (lo := false) (own := [("_law_k", 4)]) (hot_suite hz hf) sc_Lrefusal.nd (dik_rng1 (by rfl) z_range (do_of de_int)) (blkOk_by (own := [("_law_k", 4)]) (by first | rfl | decide +kernel)) (fun _ _ _ _ _ => (dg_name sc_Lrefusal.nd rfl (by first | exact Or.inl rfl | exact Or.inr rfl))) (fun _ _ _ _ _ => (dts_one (db_val (de_ix ixd_get (do_var (pv 3)) (do_var (pv 4)) (fun _ _ => rfl))))) (fun _ _ _ _ _ => (de_var (pv 4))) (by decide)))))))))))))
    (dss_one (ds_ret de_non)))
theorem sc_Lone_part : FnScope ["_law_pen_here", "_law_limit", "_law_count", "_law_way", "_law_many", "_law_ties", "_law_k", "_law_a", "_law_b"] ["_law_pen_here", "_law_limit"] (defScope s_Lone_part) := ⟨rfl, rfl, rfl, by decide +kernel, rfl, by decide +kernel, by decide +kernel⟩
set_option maxHeartbeats 4000000 in
theorem ok_Lone_part {k : Nat} {f : Addr} {fd : FuncData} (F : Fun K "_law_one_part" "_law_one_part" s_Lone_part f fd) {f_Ldraw : Addr} {fd_Ldraw : FuncData} (G_Ldraw : FnOk P w K mg base (L2N.CX P w) k f_Ldraw fd_Ldraw ["_law_pen_here", "_law_many"] (spD K mg sem_Ldraw_de5b 2)) (g_Ldraw : mg "_law_draw" = some (.ref f_Ldraw)) (k_Ldraw : PySem.W.keepIn K (.ref f_Ldraw) = true) (B_Ldraw : Binds K fd_Ldraw ["_law_pen_here", "_law_many"] []) (z_min : mg "min" = none) (z_max : mg "max" = none) (z_range : mg "range" = none) (z_len : mg "len" = none) (z_tuple : mg "tuple" = none) :
    FnOk P w K mg base (L2N.CX P w) (k + 1) f fd ["_law_pen_here", "_law_limit"] (spD K mg (defSem 2 9 b_Lone_part_805b) 2) :=
  def_ok (N := ["_law_pen_here", "_law_limit", "_law_count", "_law_way", "_law_many", "_law_ties", "_law_k", "_law_a", "_law_b"]) F sc_Lone_part (by decide) fun cdv A outer s H E hr tk =>
    (dss_cons (ds_set (i := 2) sc_Lone_part.nd rfl (by first | exact Or.inl rfl | exact Or.inr rfl) (de_call tk G_Ldraw hr (by rfl) g_Ldraw k_Ldraw B_Ldraw rfl (da_cons (do_var (pv 0)) (da_cons (do_of (de_bin od_add (do_var (pv 1)) (do_of de_int))) da_nil))))
    (dss_cons (ds_set (i := 3) sc_Lone_part.nd rfl (by first | exact Or.inl rfl | exact Or.inr rfl) (de_call tk G_Ldraw hr (by rfl) g_Ldraw k_Ldraw B_Ldraw rfl (da_cons (do_var (pv 0)) (da_cons (do_of de_int) da_nil))))
    (dss_cons (ds_set (i := 4) sc_Lone_part.nd rfl (by first | exact Or.inl rfl | exact Or.inr rfl) (de_cb (cd_min2 rfl) (by rfl) z_min (by decide +kernel) (da_cons (do_of de_int) (da_cons (do_of (de_bin od_add (do_of de_int) (do_of (de_call tk G_Ldraw hr (by rfl) g_Ldraw k_Ldraw B_Ldraw rfl (da_cons (do_var (pv 0)) (da_cons (do_of (de_bin od_add (do_var (pv 2)) (do_of de_int))) da_nil)))))) da_nil))))
    (dss_cons (ds_if (db_w (dw_or (db_cmp (od_eq hr.units) (do_var (pv 3)) (do_of de_int) (nomark _)) (dw_or1 (db_cmp (od_eq hr.units) (do_var (pv 3)) (do_of de_int) (nomark _))))) (dss_one (ds_set (i := 4) sc_Lone_part.nd rfl (by first | exact Or.inl rfl | exact Or.inr rfl) (de_bin od_add (do_of de_int) (do_var (pv 2))))) dss_nil)
    (dss_cons (ds_if (db_cmp (od_eq hr.units) (do_var (pv 3)) (do_of de_int) (nomark _)) (dss_one (ds_set (i := 4) sc_Lone_part.nd rfl (by first | exact Or.inl rfl | exact Or.inr rfl) (de_cb (cd_max2 rfl) (by rfl) z_max (by decide +kernel) (da_cons (do_of de_int) (da_cons (do_var (pv 2)) da_nil))))) dss_nil)
    (dss_cons (ds_set (i := 5) sc_Lone_part.nd rfl (by first | exact Or.inl rfl | exact Or.inr rfl) (de_lst da_nil))
    (dss_cons (ds_for (passes_of rfl) rfl (di_rng1 (by rfl) z_range (do_var (pv 2))) (dg_name sc_Lone_part.nd rfl (by first | exact Or.inl rfl | exact Or.inr rfl)) (dss_cons (ds_par (i := 7) (j := 8) rfl sc_Lone_part.nd rfl rfl (by decide) rfl rfl (de_call tk G_Ldraw hr (by rfl) g_Ldraw k_Ldraw B_Ldraw rfl (da_cons (do_var (pv 0)) (da_cons (do_var (pv 4)) da_nil))) (de_call tk G_Ldraw hr (by rfl) g_Ldraw k_Ldraw B_Ldraw rfl (da_cons (do_var (pv 0)) (da_cons (do_var (pv 4)) da_nil))) (by rfl))
    (dss_cons (ds_if (db_cmp od_lt (do_of (de_bin od_add (do_var (pv 6)) (do_of de_int))) (do_var (pv 4)) (nomark _)) (dss_one (ds_par (i := 7) (j := 8) rfl sc_Lone_part.nd rfl rfl (by decide) rfl rfl (de_ix ixd_get (do_of (de_lst (da_cons (do_of (de_call tk G_Ldraw hr (by rfl) g_Ldraw k_Ldraw B_Ldraw rfl (da_cons (do_var (pv 0)) (da_cons (do_of (de_bin od_add (do_var (pv 6)) (do_of de_int))) da_nil)))) (da_cons (do_of (de_var (pv 6))) (da_cons (do_of de_int) da_nil))))) (do_of (de_ix ixd_get (do_of (de_lst (da_cons (do_of de_int) (da_cons (do_of de_int) (da_cons (do_of de_int) (da_cons (do_of de_int) (da_cons (do_of de_int) da_nil))))))) (do_var (pv 3)) (fun _ _ => rfl))) (fun _ _ => rfl)) (de_bin od_add (do_var (pv 6)) (do_of de_int)) (by rfl))) (dss_one (ds_if (db_cmp (od_eq hr.units) (do_var (pv 3)) (do_of de_int) (nomark _)) (dss_one (ds_par (i := 7) (j := 8) rfl sc_Lone_part.nd rfl rfl (by decide) rfl rfl (de_bin od_sub (do_var (pv 4)) (do_of de_int)) de_int (by rfl))) dss_nil)))
    (dss_cons (ds_if (db_cmp (od_eq hr.units) (do_of (de_call tk G_Ldraw hr (by rfl) g_Ldraw k_Ldraw B_Ldraw rfl (da_cons (do_var (pv 0)) (da_cons (do_of de_int) da_nil)))) (do_of de_int) (nomark _)) (dss_one (ds_par (i := 7) (j := 8) rfl sc_Lone_part.nd rfl rfl (by decide) rfl rfl (de_var (pv 8)) (de_var (pv 7)) (by rfl))) dss_nil)
    (dss_one (ds_expr (de_mut PySem.F.plainAttrs_list PySem.F.slot_list_insert PySem.F.type_list_insert md_insert (pv 5) (da_cons (do_of (de_call tk G_Ldraw hr (by rfl) g_Ldraw k_Ldraw B_Ldraw rfl (da_cons (do_var (pv 0)) (da_cons (do_of (de_bin od_add (do_of (de_cb cd_len (by rfl) z_len (by decide +kernel) (da_cons (do_var (pv 5)) da_nil))) (do_of de_int))) da_nil)))) (da_cons (do_of (de_tup (da_cons (do_of (de_var (pv 7))) (da_cons (do_of (de_var (pv 8))) da_nil)))) da_nil)))))))))
    (dss_one (ds_ret (de_tup (da_cons (do_of (de_var (pv 4))) (da_cons (do_of (de_ct cd_tuple (by rfl) z_tuple (by decide +kernel) (da_cons (do_var (pv 5)) da_nil))) da_nil))))))))))))
theorem sc_Ldue : FnScope ["_law_webs", "_law_web_here"] ["_law_webs"] (defScope s_Ldue) := ⟨rfl, rfl, rfl, by decide +kernel, rfl, by decide +kernel, by decide +kernel⟩
set_option maxHeartbeats 4000000 in
theorem ok_Ldue {k : Nat} {f : Addr} {fd : FuncData} (F : Fun K "_law_due" "_law_due" s_Ldue f fd) {f_Lparts : Addr} {fd_Lparts : FuncData} (G_Lparts : FnOk P w K mg base (L2N.CX P w) k f_Lparts fd_Lparts ["_law_web_here"] (spD K mg sem_Lparts_9bff 1)) (g_Lparts : mg "_law_parts" = some (.ref f_Lparts)) (k_Lparts : PySem.W.keepIn K (.ref f_Lparts) = true) (B_Lparts : Binds K fd_Lparts ["_law_web_here"] []) (z_len : mg "len" = none) :
    FnOk P w K mg base (L2N.CX P w) (k + 1) f fd ["_law_webs"] (spD K mg (defSem 1 2 b_Ldue_cbcf) 1) :=
  def_ok (N := ["_law_webs", "_law_web_here"]) F sc_Ldue (by decide) fun cdv A outer s H E hr tk =>
    (dss_cons (ds_if (db_cmp (od_ne hr.units) (do_of (de_lc (own := [("_law_web_here", 1)]) rfl sc_Ldue.nd (di_seq (lo := false) (de_var (pv 0))) (blkOk_by (own := [("_law_web_here", 1)]) (by first | rfl | decide +kernel)) (fun _ _ _ _ _ => (dg_name sc_Ldue.nd rfl (by first | exact Or.inl rfl | exact Or.inr rfl))) (fun _ _ _ _ _ => (dts_one (db_cmp od_gt (do_of (de_cb cd_len (by rfl) z_len (by decide +kernel) (da_cons (do_of (de_call takesN0 G_Lparts hr (by rfl) g_Lparts k_Lparts B_Lparts rfl (da_cons (do_var (pv 1)) da_nil))) da_nil))) (do_of de_int) (nomark _)))) (fun _ _ _ _ _ => (de_var (pv 1))) (by decide))) (do_of (de_lst da_nil)) (nomark _)) (dss_one (ds_ret (de_lst (da_cons (do_of de_int) da_nil)))) dss_nil)
    (dss_one (ds_ret de_non)))
theorem sc_law : FnScope ["_law_script", "_law_pen_here", "_law_webs", "_law_orders", "_law_k", "_law_one", "_law_other", "_law_asked", "_law_due_here", "_law_j", "_law_web_here", "_law_end"] ["_law_script"] (defScope s_law) := ⟨rfl, rfl, rfl, by decide +kernel, rfl, by decide +kernel, by decide +kernel⟩
set_option maxHeartbeats 4000000 in
theorem ok_law {k : Nat} {f : Addr} {fd : FuncData} (F : Fun K "law" "law" s_law f fd) {f_Lpen : Addr} {fd_Lpen : FuncData} (G_Lpen : FnOk P w K mg base (L2N.CX P w) k f_Lpen fd_Lpen ["_law_script"] (spD K mg sem_Lpen_3d2f 1)) (g_Lpen : mg "_law_pen" = some (.ref f_Lpen)) (k_Lpen : PySem.W.keepIn K (.ref f_Lpen) = true) (B_Lpen : Binds K fd_Lpen ["_law_script"] []) {f_Lweb : Addr} {fd_Lweb : FuncData} (G_Lweb : FnOk P w K mg base (L2N.CX P w) k f_Lweb fd_Lweb ["_law_pen_here", "_law_places", "_law_ties"] (spD K mg sem_Lweb_0350 3)) (g_Lweb : mg "_law_web" = some (.ref f_Lweb)) (k_Lweb : PySem.W.keepIn K (.ref f_Lweb) = true) (B_Lweb : Binds K fd_Lweb ["_law_pen_here", "_law_places", "_law_ties"] []) {f_Lone_part : Addr} {fd_Lone_part : FuncData} (G_Lone_part : FnOk P w K mg base (L2N.CX P w) k f_Lone_part fd_Lone_part ["_law_pen_here", "_law_limit"] (spD K mg sem_Lone_part_805b 2)) (g_Lone_part : mg "_law_one_part" = some (.ref f_Lone_part)) (k_Lone_part : PySem.W.keepIn K (.ref f_Lone_part) = true) (B_Lone_part : Binds K fd_Lone_part ["_law_pen_here", "_law_limit"] []) {f_Ldraw : Addr} {fd_Ldraw : FuncData} (G_Ldraw : FnOk P w K mg base (L2N.CX P w) k f_Ldraw fd_Ldraw ["_law_pen_here", "_law_many"] (spD K mg sem_Ldraw_de5b 2)) (g_Ldraw : mg "_law_draw" = some (.ref f_Ldraw)) (k_Ldraw : PySem.W.keepIn K (.ref f_Ldraw) = true) (B_Ldraw : Binds K fd_Ldraw ["_law_pen_here", "_law_many"] []) {f_Lorder : Addr} {fd_Lorder : FuncData} (G_Lorder : FnOk P w K mg base (L2N.CX P w) k f_Lorder fd_Lorder ["_law_pen_here", "_law_web_here"] (spD K mg sem_Lorder_8e8e 2)) (g_Lorder : mg "_law_order" = some (.ref f_Lorder)) (k_Lorder : PySem.W.keepIn K (.ref f_Lorder) = true) (B_Lorder : Binds K fd_Lorder ["_law_pen_here", "_law_web_here"] []) {f_Lrefusal : Addr} {fd_Lrefusal : FuncData} (G_Lrefusal : FnOk P w K mg base (L2N.CX P w) k f_Lrefusal fd_Lrefusal ["_law_call", "_law_things"] (spD K mg sem_Lrefusal_a658R 2)) (g_Lrefusal : mg "_law_refusal" = some (.ref f_Lrefusal)) (k_Lrefusal : PySem.W.keepIn K (.ref f_Lrefusal) = true) (B_Lrefusal : Binds K fd_Lrefusal ["_law_call", "_law_things"] []) {f_Lalike : Addr} {fd_Lalike : FuncData} (G_Lalike : FnOk P w K mg base (L2N.CX P w) k f_Lalike fd_Lalike ["_law_asked"] (spD K mg sem_Lalike_7b14R 1)) (g_Lalike : mg "_law_alike" = some (.ref f_Lalike)) (k_Lalike : PySem.W.keepIn K (.ref f_Lalike) = true) (B_Lalike : Binds K fd_Lalike ["_law_asked"] []) {f_Ldue : Addr} {fd_Ldue : FuncData} (G_Ldue : FnOk P w K mg base (L2N.CX P w) k f_Ldue fd_Ldue ["_law_webs"] (spD K mg sem_Ldue_cbcf 1)) (g_Ldue : mg "_law_due" = some (.ref f_Ldue)) (k_Ldue : PySem.W.keepIn K (.ref f_Ldue) = true) (B_Ldue : Binds K fd_Ldue ["_law_webs"] []) {f_Lcode : Addr} {fd_Lcode : FuncData} (G_Lcode : FnOk P w K mg base (L2N.CX P w) k f_Lcode fd_Lcode ["_law_asked"] (spD K mg sem_Lcode_e2cbR 1)) (g_Lcode : mg "_law_code" = some (.ref f_Lcode)) (k_Lcode : PySem.W.keepIn K (.ref f_Lcode) = true) (B_Lcode : Binds K fd_Lcode ["_law_asked"] []) {f_Lturnings : Addr} {fd_Lturnings : FuncData} (G_Lturnings : FnOk P w K mg base (L2N.CX P w) k f_Lturnings fd_Lturnings ["_law_asked"] (spD K mg sem_Lturnings_e7f3R 1)) (g_Lturnings : mg "_law_turnings" = some (.ref f_Lturnings)) (k_Lturnings : PySem.W.keepIn K (.ref f_Lturnings) = true) (B_Lturnings : Binds K fd_Lturnings ["_law_asked"] []) {f_Lcode_from : Addr} {fd_Lcode_from : FuncData} (G_Lcode_from : FnOk P w K mg base (L2N.CX P w) k f_Lcode_from fd_Lcode_from ["_law_asked"] (spD K mg sem_Lcode_from_df70R 1)) (g_Lcode_from : mg "_law_code_from" = some (.ref f_Lcode_from)) (k_Lcode_from : PySem.W.keepIn K (.ref f_Lcode_from) = true) (B_Lcode_from : Binds K fd_Lcode_from ["_law_asked"] []) (a_Lalike : PySem.W.nsIn K mainGlobals "_law_alike" = some (some (.ref f_Lalike))) (a_Lcode : PySem.W.nsIn K mainGlobals "_law_code" = some (some (.ref f_Lcode))) (a_Lturnings : PySem.W.nsIn K mainGlobals "_law_turnings" = some (some (.ref f_Lturnings))) (a_Lcode_from : PySem.W.nsIn K mainGlobals "_law_code_from" = some (some (.ref f_Lcode_from))) (z_range : mg "range" = none) (z_len : mg "len" = none) (z_int : mg "int" = none) :
    FnOk P w K mg base (L2N.CX P w) (k + 1) f fd ["_law_script"] (spD K mg (defSem 1 12 b_law_716dR) 1) :=
  def_ok (N := ["_law_script", "_law_pen_here", "_law_webs", "_law_orders", "_law_k", "_law_one", "_law_other", "_law_asked", "_law_due_here", "_law_j", "_law_web_here", "_law_end"]) F sc_law (by decide) fun cdv A outer s H E hr tk =>
    (dss_cons (ds_set (i := 1) sc_law.nd rfl (by first | exact Or.inl rfl | exact Or.inr rfl) (de_call tk G_Lpen hr (by rfl) g_Lpen k_Lpen B_Lpen rfl (da_cons (do_var (pv 0)) da_nil)))
    (dss_cons (ds_setLc (i := 2) (own := [("_law_k", 4)]) rfl sc_law.nd rfl rfl (sw_true rfl rfl rfl (by decide +kernel)) (di_rng1 (by rfl) z_range (do_of de_int)) (blkOk_by (own := [("_law_k", 4)]) (by first | rfl | decide +kernel)) (fun _ _ _ _ _ => (dg_name sc_law.nd rfl (by first | exact Or.inl rfl | exact Or.inr rfl))) (fun _ _ _ _ _ => dts_nil) (fun _ _ _ _ _ => (de_ix ixd_get (do_of (de_lst (da_cons (do_of (de_call takesN0 G_Lweb hr (by rfl) g_Lweb k_Lweb B_Lweb rfl (da_cons (do_var (pv 1)) (da_cons (do_of de_int) (da_cons (do_of de_int) da_nil))))) (da_cons (do_of (de_call takesN0 G_Lone_part hr (by rfl) g_Lone_part k_Lone_part B_Lone_part rfl (da_cons (do_var (pv 1)) (da_cons (do_of de_int) da_nil)))) da_nil)))) (do_of (de_call takesN0 G_Ldraw hr (by rfl) g_Ldraw k_Ldraw B_Ldraw rfl (da_cons (do_var (pv 1)) (da_cons (do_of de_int) da_nil)))) (fun _ _ => rfl))) (by decide))
    (dss_cons (ds_setLc (i := 3) (own := [("_law_web_here", 10)]) rfl sc_law.nd rfl rfl (sw_true rfl rfl rfl (by decide +kernel)) (di_seq (lo := false) (de_var (pv 2))) (blkOk_by (own := [("_law_web_here", 10)]) (by first | rfl | decide +kernel)) (fun _ _ _ _ _ => (dg_name sc_law.nd rfl (by first | exact Or.inl rfl | exact Or.inr rfl))) (fun _ _ _ _ _ => dts_nil) (fun _ _ _ _ _ => (de_call takesN0 G_Lorder hr (by rfl) g_Lorder k_Lorder B_Lorder rfl (da_cons (do_var (pv 1)) (da_cons (do_var (pv 10)) da_nil)))) (by decide))
    (dss_cons (ds_for (passes_of rfl) rfl (di_seq (lo := false) (de_lst (da_cons (do_of (de_tup (da_cons (do_of de_int) (da_cons (do_of de_int) da_nil)))) (da_cons (do_of (de_tup (da_cons (do_of de_int) (da_cons (do_of de_int) da_nil)))) (da_cons (do_of (de_tup (da_cons (do_of de_int) (da_cons (do_of de_int) da_nil)))) da_nil))))) (dg_tup rfl (dgs_cons (dg_name sc_law.nd rfl (by first | exact Or.inl rfl | exact Or.inr rfl)) (dgs_cons (dg_name sc_law.nd rfl (by first | exact Or.inl rfl | exact Or.inr rfl)) dgs_nil))) (dss_cons (ds_set (i := 7) sc_law.nd rfl (by first | exact Or.inl rfl | exact Or.inr rfl) (de_tup (da_cons (do_of (de_ix ixd_get (do_var (pv 2)) (do_var (pv 5)) (fun _ _ => rfl))) (da_cons (do_of (de_ix ixd_get (do_var (pv 3)) (do_var (pv 5)) (fun _ _ => rfl))) (da_cons (do_of (de_ix ixd_get (do_var (pv 2)) (do_var (pv 6)) (fun _ _ => rfl))) (da_cons (do_of (de_ix ixd_get (do_var (pv 3)) (do_var (pv 6)) (fun _ _ => rfl))) da_nil))))))
    (dss_one (ds_if (db_cmp (od_ne hr.units) (do_of (de_call tk G_Lrefusal hr (by rfl) g_Lrefusal k_Lrefusal B_Lrefusal rfl (da_cons (do_of (de_fn (by rfl) g_Lalike a_Lalike)) (da_cons (do_var (pv 7)) da_nil)))) (do_of (de_call tk G_Ldue hr (by rfl) g_Ldue k_Ldue B_Ldue rfl (da_cons (do_of (de_lst (da_cons (do_of (de_ix ixd_get (do_var (pv 2)) (do_var (pv 5)) (fun _ _ => rfl))) (da_cons (do_of (de_ix ixd_get (do_var (pv 2)) (do_var (pv 6)) (fun _ _ => rfl))) da_nil)))) da_nil))) (nomark _)) (dss_one (ds_ret de_bl)) dss_nil))))
    (dss_cons (ds_for (passes_of rfl) rfl (di_rng1 (by rfl) z_range (do_of de_int)) (dg_name sc_law.nd rfl (by first | exact Or.inl rfl | exact Or.inr rfl)) (dss_cons (ds_set (i := 8) sc_law.nd rfl (by first | exact Or.inl rfl | exact Or.inr rfl) (de_call tk G_Ldue hr (by rfl) g_Ldue k_Ldue B_Ldue rfl (da_cons (do_of (de_lst (da_cons (do_of (de_ix ixd_get (do_var (pv 2)) (do_var (pv 4)) (fun _ _ => rfl))) da_nil))) da_nil)))
    (dss_cons (ds_if (db_cmp (od_ne hr.units) (do_of (de_call tk G_Lrefusal hr (by rfl) g_Lrefusal k_Lrefusal B_Lrefusal rfl (da_cons (do_of (de_fn (by rfl) g_Lcode a_Lcode)) (da_cons (do_of (de_tup (da_cons (do_of (de_ix ixd_get (do_var (pv 2)) (do_var (pv 4)) (fun _ _ => rfl))) (da_cons (do_of (de_ix ixd_get (do_var (pv 3)) (do_var (pv 4)) (fun _ _ => rfl))) da_nil)))) da_nil)))) (do_var (pv 8)) (nomark _)) (dss_one (ds_ret de_bl)) dss_nil)
    (dss_cons (ds_if (db_cmp (od_ne hr.units) (do_of (de_call tk G_Lrefusal hr (by rfl) g_Lrefusal k_Lrefusal B_Lrefusal rfl (da_cons (do_of (de_fn (by rfl) g_Lturnings a_Lturnings)) (da_cons (do_of (de_tup (da_cons (do_of (de_ix ixd_get (do_var (pv 2)) (do_var (pv 4)) (fun _ _ => rfl))) (da_cons (do_of (de_ix ixd_get (do_var (pv 3)) (do_var (pv 4)) (fun _ _ => rfl))) da_nil)))) da_nil)))) (do_var (pv 8)) (nomark _)) (dss_one (ds_ret de_bl)) dss_nil)
    (dss_one (ds_for (passes_of rfl) rfl (di_rng1 (by rfl) z_range (do_of (de_bin od_mul (do_of de_int) (do_of (de_ct cd_int (by rfl) z_int (by decide +kernel) (da_cons (do_of (de_cmp od_gt (do_of (de_cb cd_len (by rfl) z_len (by decide +kernel) (da_cons (do_of (de_ix ixd_get (do_of (de_ix ixd_get (do_var (pv 2)) (do_var (pv 4)) (fun _ _ => rfl))) (do_of de_int) (fun _ _ => rfl))) da_nil))) (do_of de_int) (nomark _))) da_nil)))))) (dg_name sc_law.nd rfl (by first | exact Or.inl rfl | exact Or.inr rfl)) (dss_cons (ds_set (i := 11) sc_law.nd rfl (by first | exact Or.inl rfl | exact Or.inr rfl) (de_call tk G_Ldraw hr (by rfl) g_Ldraw k_Ldraw B_Ldraw rfl (da_cons (do_var (pv 1)) (da_cons (do_of (de_bin od_mul (do_of de_int) (do_of (de_cb cd_len (by rfl) z_len (by decide +kernel) (da_cons (do_of (de_ix ixd_get (do_of (de_ix ixd_get (do_var (pv 2)) (do_var (pv 4)) (fun _ _ => rfl))) (do_of de_int) (fun _ _ => rfl))) da_nil))))) da_nil))))
    (dss_one (ds_if (db_cmp (od_ne hr.units) (do_of (de_call tk G_Lrefusal hr (by rfl) g_Lrefusal k_Lrefusal B_Lrefusal rfl (da_cons (do_of (de_fn (by rfl) g_Lcode_from a_Lcode_from)) (da_cons (do_of (de_tup (da_cons (do_of (de_ix ixd_get (do_var (pv 2)) (do_var (pv 4)) (fun _ _ => rfl))) (da_cons (do_of (de_ix ixd_get (do_var (pv 3)) (do_var (pv 4)) (fun _ _ => rfl))) (da_cons (do_of (de_var (pv 11))) da_nil))))) da_nil)))) (do_var (pv 8)) (nomark _)) (dss_one (ds_ret de_bl)) dss_nil)))))))))
    (dss_one (ds_ret de_bl)))))))
set_option maxHeartbeats 4000000 in
theorem all_mk {h : Heap} {fa : Addr} (X : K.In h) (G : h.Ns mainGlobals mg) (hfa : mg "law" = some (.ref fa))
    {f_partner : Addr} {od_partner an_partner : Option Addr} {sl_partner : Array (Option Value)} {oc_partner kV_partner dc_partner pm_partner cd_partner ct_partner : Value} {f_parts_by : Addr} {od_parts_by an_parts_by : Option Addr} {sl_parts_by : Array (Option Value)} {oc_parts_by kV_parts_by dc_parts_by pm_parts_by cd_parts_by ct_parts_by : Value} {f_parts_of : Addr} {od_parts_of an_parts_of : Option Addr} {sl_parts_of : Array (Option Value)} {oc_parts_of kV_parts_of dc_parts_of pm_parts_of cd_parts_of ct_parts_of : Value} {f_is_one_part : Addr} {od_is_one_part an_is_one_part : Option Addr} {sl_is_one_part : Array (Option Value)} {oc_is_one_part kV_is_one_part dc_is_one_part pm_is_one_part cd_is_one_part ct_is_one_part : Value} {f_look_one_part : Addr} {od_look_one_part an_look_one_part : Option Addr} {sl_look_one_part : Array (Option Value)} {oc_look_one_part kV_look_one_part dc_look_one_part pm_look_one_part cd_look_one_part ct_look_one_part : Value} {f_followers : Addr} {od_followers an_followers : Option Addr} {sl_followers : Array (Option Value)} {oc_followers kV_followers dc_followers pm_followers cd_followers ct_followers : Value} {f_numbered : Addr} {od_numbered an_numbered : Option Addr} {sl_numbered : Array (Option Value)} {oc_numbered kV_numbered dc_numbered pm_numbered cd_numbered ct_numbered : Value} {f_coded : Addr} {od_coded an_coded : Option Addr} {sl_coded : Array (Option Value)} {oc_coded kV_coded dc_coded pm_coded cd_coded ct_coded : Value} {f_code_from : Addr} {od_code_from an_code_from : Option Addr} {sl_code_from : Array (Option Value)} {oc_code_from kV_code_from dc_code_from pm_code_from cd_code_from ct_code_from : Value} {f_code : Addr} {od_code an_code : Option Addr} {sl_code : Array (Option Value)} {oc_code kV_code dc_code pm_code cd_code ct_code : Value} {f_renamings : Addr} {od_renamings an_renamings : Option Addr} {sl_renamings : Array (Option Value)} {oc_renamings kV_renamings dc_renamings pm_renamings cd_renamings ct_renamings : Value} {f_alike : Addr} {od_alike an_alike : Option Addr} {sl_alike : Array (Option Value)} {oc_alike kV_alike dc_alike pm_alike cd_alike ct_alike : Value} {f_turnings : Addr} {od_turnings an_turnings : Option Addr} {sl_turnings : Array (Option Value)} {oc_turnings kV_turnings dc_turnings pm_turnings cd_turnings ct_turnings : Value} {f_Lpen : Addr} {od_Lpen an_Lpen : Option Addr} {sl_Lpen : Array (Option Value)} {oc_Lpen kV_Lpen dc_Lpen pm_Lpen cd_Lpen ct_Lpen : Value} {f_Ldraw : Addr} {od_Ldraw an_Ldraw : Option Addr} {sl_Ldraw : Array (Option Value)} {oc_Ldraw kV_Ldraw dc_Ldraw pm_Ldraw cd_Ldraw ct_Ldraw : Value} {f_Lweb : Addr} {od_Lweb an_Lweb : Option Addr} {sl_Lweb : Array (Option Value)} {oc_Lweb kV_Lweb dc_Lweb pm_Lweb cd_Lweb ct_Lweb : Value} {f_Lorder : Addr} {od_Lorder an_Lorder : Option Addr} {sl_Lorder : Array (Option Value)} {oc_Lorder kV_Lorder dc_Lorder pm_Lorder cd_Lorder ct_Lorder : Value} {f_Lparts : Addr} {od_Lparts an_Lparts : Option Addr} {sl_Lparts : Array (Option Value)} {oc_Lparts kV_Lparts dc_Lparts pm_Lparts cd_Lparts ct_Lparts : Value} {f_Lturnings : Addr} {od_Lturnings an_Lturnings : Option Addr} {sl_Lturnings : Array (Option Value)} {oc_Lturnings kV_Lturnings dc_Lturnings pm_Lturnings cd_Lturnings ct_Lturnings : Value} {f_Lcode_from : Addr} {od_Lcode_from an_Lcode_from : Option Addr} {sl_Lcode_from : Array (Option Value)} {oc_Lcode_from kV_Lcode_from dc_Lcode_from pm_Lcode_from cd_Lcode_from ct_Lcode_from : Value} {f_Lcode : Addr} {od_Lcode an_Lcode : Option Addr} {sl_Lcode : Array (Option Value)} {oc_Lcode kV_Lcode dc_Lcode pm_Lcode cd_Lcode ct_Lcode : Value} {f_Lalike : Addr} {od_Lalike an_Lalike : Option Addr} {sl_Lalike : Array (Option Value)} {oc_Lalike kV_Lalike dc_Lalike pm_Lalike cd_Lalike ct_Lalike : Value} {f_Lrefusal : Addr} {od_Lrefusal an_Lrefusal : Option Addr} {sl_Lrefusal : Array (Option Value)} {oc_Lrefusal kV_Lrefusal dc_Lrefusal pm_Lrefusal cd_Lrefusal ct_Lrefusal : Value} {f_Lone_part : Addr} {od_Lone_part an_Lone_part : Option Addr} {sl_Lone_part : Array (Option Value)} {oc_Lone_part kV_Lone_part dc_Lone_part pm_Lone_part cd_Lone_part ct_Lone_part : Value} {f_Ldue : Addr} {od_Ldue an_Ldue : Option Addr} {sl_Ldue : Array (Option Value)} {oc_Ldue kV_Ldue dc_Ldue pm_Ldue cd_Ldue ct_Ldue : Value} {f_law : Addr} {od_law an_law : Option Addr} {sl_law : Array (Option Value)} {oc_law kV_law dc_law pm_law cd_law ct_law : Value} {C_Apart : Addr} {C_NoWeb : Addr} {C_NoOrder : Addr} {C_NoNumber : Addr} {C_NoEnd : Addr} {C_NoTie : Addr} {C_NoPlace : Addr} {C_NoTable : Addr} {C_NoRing : Addr} {C_NoPaper : Addr} {C_TooMany : Addr} {C_TooGreat : Addr} {C_NoText : Addr} {C_NoName : Addr} {C_NoRow : Addr} {C_FloorError : Addr}
    (a_partner : PySem.W.nsIn K mainGlobals "partner" = some (some (.ref f_partner))) (l_partner : K.lookup f_partner = some ⟨oc_partner, od_partner, .func (PySem.W.fnOf "partner" "partner" (defArgs s_partner) (defBody s_partner) (defScope s_partner) .none kV_partner dc_partner pm_partner an_partner cd_partner ct_partner), sl_partner⟩) (c_partner : PySem.W.codeIn K cd_partner "partner" = true) (k_partner : PySem.W.keepIn K (.ref f_partner) = true)
    (a_parts_by : PySem.W.nsIn K mainGlobals "parts_by" = some (some (.ref f_parts_by))) (l_parts_by : K.lookup f_parts_by = some ⟨oc_parts_by, od_parts_by, .func (PySem.W.fnOf "parts_by" "parts_by" (defArgs s_parts_by) (defBody s_parts_by) (defScope s_parts_by) .none kV_parts_by dc_parts_by pm_parts_by an_parts_by cd_parts_by ct_parts_by), sl_parts_by⟩) (c_parts_by : PySem.W.codeIn K cd_parts_by "parts_by" = true) (k_parts_by : PySem.W.keepIn K (.ref f_parts_by) = true)
    (a_parts_of : PySem.W.nsIn K mainGlobals "parts_of" = some (some (.ref f_parts_of))) (l_parts_of : K.lookup f_parts_of = some ⟨oc_parts_of, od_parts_of, .func (PySem.W.fnOf "parts_of" "parts_of" (defArgs s_parts_of) (defBody s_parts_of) (defScope s_parts_of) .none kV_parts_of dc_parts_of pm_parts_of an_parts_of cd_parts_of ct_parts_of), sl_parts_of⟩) (c_parts_of : PySem.W.codeIn K cd_parts_of "parts_of" = true) (k_parts_of : PySem.W.keepIn K (.ref f_parts_of) = true)
    (a_is_one_part : PySem.W.nsIn K mainGlobals "is_one_part" = some (some (.ref f_is_one_part))) (l_is_one_part : K.lookup f_is_one_part = some ⟨oc_is_one_part, od_is_one_part, .func (PySem.W.fnOf "is_one_part" "is_one_part" (defArgs s_is_one_part) (defBody s_is_one_part) (defScope s_is_one_part) .none kV_is_one_part dc_is_one_part pm_is_one_part an_is_one_part cd_is_one_part ct_is_one_part), sl_is_one_part⟩) (c_is_one_part : PySem.W.codeIn K cd_is_one_part "is_one_part" = true) (k_is_one_part : PySem.W.keepIn K (.ref f_is_one_part) = true)
    (a_look_one_part : PySem.W.nsIn K mainGlobals "look_one_part" = some (some (.ref f_look_one_part))) (l_look_one_part : K.lookup f_look_one_part = some ⟨oc_look_one_part, od_look_one_part, .func (PySem.W.fnOf "look_one_part" "look_one_part" (defArgs s_look_one_part) (defBody s_look_one_part) (defScope s_look_one_part) .none kV_look_one_part dc_look_one_part pm_look_one_part an_look_one_part cd_look_one_part ct_look_one_part), sl_look_one_part⟩) (c_look_one_part : PySem.W.codeIn K cd_look_one_part "look_one_part" = true) (k_look_one_part : PySem.W.keepIn K (.ref f_look_one_part) = true)
    (a_followers : PySem.W.nsIn K mainGlobals "followers" = some (some (.ref f_followers))) (l_followers : K.lookup f_followers = some ⟨oc_followers, od_followers, .func (PySem.W.fnOf "followers" "followers" (defArgs s_followers) (defBody s_followers) (defScope s_followers) .none kV_followers dc_followers pm_followers an_followers cd_followers ct_followers), sl_followers⟩) (c_followers : PySem.W.codeIn K cd_followers "followers" = true) (k_followers : PySem.W.keepIn K (.ref f_followers) = true)
    (a_numbered : PySem.W.nsIn K mainGlobals "numbered" = some (some (.ref f_numbered))) (l_numbered : K.lookup f_numbered = some ⟨oc_numbered, od_numbered, .func (PySem.W.fnOf "numbered" "numbered" (defArgs s_numbered) (defBody s_numbered) (defScope s_numbered) .none kV_numbered dc_numbered pm_numbered an_numbered cd_numbered ct_numbered), sl_numbered⟩) (c_numbered : PySem.W.codeIn K cd_numbered "numbered" = true) (k_numbered : PySem.W.keepIn K (.ref f_numbered) = true)
    (a_coded : PySem.W.nsIn K mainGlobals "coded" = some (some (.ref f_coded))) (l_coded : K.lookup f_coded = some ⟨oc_coded, od_coded, .func (PySem.W.fnOf "coded" "coded" (defArgs s_coded) (defBody s_coded) (defScope s_coded) .none kV_coded dc_coded pm_coded an_coded cd_coded ct_coded), sl_coded⟩) (c_coded : PySem.W.codeIn K cd_coded "coded" = true) (k_coded : PySem.W.keepIn K (.ref f_coded) = true)
    (a_code_from : PySem.W.nsIn K mainGlobals "code_from" = some (some (.ref f_code_from))) (l_code_from : K.lookup f_code_from = some ⟨oc_code_from, od_code_from, .func (PySem.W.fnOf "code_from" "code_from" (defArgs s_code_from) (defBody s_code_from) (defScope s_code_from) .none kV_code_from dc_code_from pm_code_from an_code_from cd_code_from ct_code_from), sl_code_from⟩) (c_code_from : PySem.W.codeIn K cd_code_from "code_from" = true) (k_code_from : PySem.W.keepIn K (.ref f_code_from) = true)
    (a_code : PySem.W.nsIn K mainGlobals "code" = some (some (.ref f_code))) (l_code : K.lookup f_code = some ⟨oc_code, od_code, .func (PySem.W.fnOf "code" "code" (defArgs s_code) (defBody s_code) (defScope s_code) .none kV_code dc_code pm_code an_code cd_code ct_code), sl_code⟩) (c_code : PySem.W.codeIn K cd_code "code" = true) (k_code : PySem.W.keepIn K (.ref f_code) = true)
    (a_renamings : PySem.W.nsIn K mainGlobals "renamings" = some (some (.ref f_renamings))) (l_renamings : K.lookup f_renamings = some ⟨oc_renamings, od_renamings, .func (PySem.W.fnOf "renamings" "renamings" (defArgs s_renamings) (defBody s_renamings) (defScope s_renamings) .none kV_renamings dc_renamings pm_renamings an_renamings cd_renamings ct_renamings), sl_renamings⟩) (c_renamings : PySem.W.codeIn K cd_renamings "renamings" = true) (k_renamings : PySem.W.keepIn K (.ref f_renamings) = true)
    (a_alike : PySem.W.nsIn K mainGlobals "alike" = some (some (.ref f_alike))) (l_alike : K.lookup f_alike = some ⟨oc_alike, od_alike, .func (PySem.W.fnOf "alike" "alike" (defArgs s_alike) (defBody s_alike) (defScope s_alike) .none kV_alike dc_alike pm_alike an_alike cd_alike ct_alike), sl_alike⟩) (c_alike : PySem.W.codeIn K cd_alike "alike" = true) (k_alike : PySem.W.keepIn K (.ref f_alike) = true)
    (a_turnings : PySem.W.nsIn K mainGlobals "turnings" = some (some (.ref f_turnings))) (l_turnings : K.lookup f_turnings = some ⟨oc_turnings, od_turnings, .func (PySem.W.fnOf "turnings" "turnings" (defArgs s_turnings) (defBody s_turnings) (defScope s_turnings) .none kV_turnings dc_turnings pm_turnings an_turnings cd_turnings ct_turnings), sl_turnings⟩) (c_turnings : PySem.W.codeIn K cd_turnings "turnings" = true) (k_turnings : PySem.W.keepIn K (.ref f_turnings) = true)
    (a_Lpen : PySem.W.nsIn K mainGlobals "_law_pen" = some (some (.ref f_Lpen))) (l_Lpen : K.lookup f_Lpen = some ⟨oc_Lpen, od_Lpen, .func (PySem.W.fnOf "_law_pen" "_law_pen" (defArgs s_Lpen) (defBody s_Lpen) (defScope s_Lpen) .none kV_Lpen dc_Lpen pm_Lpen an_Lpen cd_Lpen ct_Lpen), sl_Lpen⟩) (c_Lpen : PySem.W.codeIn K cd_Lpen "_law_pen" = true) (k_Lpen : PySem.W.keepIn K (.ref f_Lpen) = true)
    (a_Ldraw : PySem.W.nsIn K mainGlobals "_law_draw" = some (some (.ref f_Ldraw))) (l_Ldraw : K.lookup f_Ldraw = some ⟨oc_Ldraw, od_Ldraw, .func (PySem.W.fnOf "_law_draw" "_law_draw" (defArgs s_Ldraw) (defBody s_Ldraw) (defScope s_Ldraw) .none kV_Ldraw dc_Ldraw pm_Ldraw an_Ldraw cd_Ldraw ct_Ldraw), sl_Ldraw⟩) (c_Ldraw : PySem.W.codeIn K cd_Ldraw "_law_draw" = true) (k_Ldraw : PySem.W.keepIn K (.ref f_Ldraw) = true)
    (a_Lweb : PySem.W.nsIn K mainGlobals "_law_web" = some (some (.ref f_Lweb))) (l_Lweb : K.lookup f_Lweb = some ⟨oc_Lweb, od_Lweb, .func (PySem.W.fnOf "_law_web" "_law_web" (defArgs s_Lweb) (defBody s_Lweb) (defScope s_Lweb) .none kV_Lweb dc_Lweb pm_Lweb an_Lweb cd_Lweb ct_Lweb), sl_Lweb⟩) (c_Lweb : PySem.W.codeIn K cd_Lweb "_law_web" = true) (k_Lweb : PySem.W.keepIn K (.ref f_Lweb) = true)
    (a_Lorder : PySem.W.nsIn K mainGlobals "_law_order" = some (some (.ref f_Lorder))) (l_Lorder : K.lookup f_Lorder = some ⟨oc_Lorder, od_Lorder, .func (PySem.W.fnOf "_law_order" "_law_order" (defArgs s_Lorder) (defBody s_Lorder) (defScope s_Lorder) .none kV_Lorder dc_Lorder pm_Lorder an_Lorder cd_Lorder ct_Lorder), sl_Lorder⟩) (c_Lorder : PySem.W.codeIn K cd_Lorder "_law_order" = true) (k_Lorder : PySem.W.keepIn K (.ref f_Lorder) = true)
    (a_Lparts : PySem.W.nsIn K mainGlobals "_law_parts" = some (some (.ref f_Lparts))) (l_Lparts : K.lookup f_Lparts = some ⟨oc_Lparts, od_Lparts, .func (PySem.W.fnOf "_law_parts" "_law_parts" (defArgs s_Lparts) (defBody s_Lparts) (defScope s_Lparts) .none kV_Lparts dc_Lparts pm_Lparts an_Lparts cd_Lparts ct_Lparts), sl_Lparts⟩) (c_Lparts : PySem.W.codeIn K cd_Lparts "_law_parts" = true) (k_Lparts : PySem.W.keepIn K (.ref f_Lparts) = true)
    (a_Lturnings : PySem.W.nsIn K mainGlobals "_law_turnings" = some (some (.ref f_Lturnings))) (l_Lturnings : K.lookup f_Lturnings = some ⟨oc_Lturnings, od_Lturnings, .func (PySem.W.fnOf "_law_turnings" "_law_turnings" (defArgs s_Lturnings) (defBody s_Lturnings) (defScope s_Lturnings) .none kV_Lturnings dc_Lturnings pm_Lturnings an_Lturnings cd_Lturnings ct_Lturnings), sl_Lturnings⟩) (c_Lturnings : PySem.W.codeIn K cd_Lturnings "_law_turnings" = true) (k_Lturnings : PySem.W.keepIn K (.ref f_Lturnings) = true)
    (a_Lcode_from : PySem.W.nsIn K mainGlobals "_law_code_from" = some (some (.ref f_Lcode_from))) (l_Lcode_from : K.lookup f_Lcode_from = some ⟨oc_Lcode_from, od_Lcode_from, .func (PySem.W.fnOf "_law_code_from" "_law_code_from" (defArgs s_Lcode_from) (defBody s_Lcode_from) (defScope s_Lcode_from) .none kV_Lcode_from dc_Lcode_from pm_Lcode_from an_Lcode_from cd_Lcode_from ct_Lcode_from), sl_Lcode_from⟩) (c_Lcode_from : PySem.W.codeIn K cd_Lcode_from "_law_code_from" = true) (k_Lcode_from : PySem.W.keepIn K (.ref f_Lcode_from) = true)
    (a_Lcode : PySem.W.nsIn K mainGlobals "_law_code" = some (some (.ref f_Lcode))) (l_Lcode : K.lookup f_Lcode = some ⟨oc_Lcode, od_Lcode, .func (PySem.W.fnOf "_law_code" "_law_code" (defArgs s_Lcode) (defBody s_Lcode) (defScope s_Lcode) .none kV_Lcode dc_Lcode pm_Lcode an_Lcode cd_Lcode ct_Lcode), sl_Lcode⟩) (c_Lcode : PySem.W.codeIn K cd_Lcode "_law_code" = true) (k_Lcode : PySem.W.keepIn K (.ref f_Lcode) = true)
    (a_Lalike : PySem.W.nsIn K mainGlobals "_law_alike" = some (some (.ref f_Lalike))) (l_Lalike : K.lookup f_Lalike = some ⟨oc_Lalike, od_Lalike, .func (PySem.W.fnOf "_law_alike" "_law_alike" (defArgs s_Lalike) (defBody s_Lalike) (defScope s_Lalike) .none kV_Lalike dc_Lalike pm_Lalike an_Lalike cd_Lalike ct_Lalike), sl_Lalike⟩) (c_Lalike : PySem.W.codeIn K cd_Lalike "_law_alike" = true) (k_Lalike : PySem.W.keepIn K (.ref f_Lalike) = true)
    (a_Lrefusal : PySem.W.nsIn K mainGlobals "_law_refusal" = some (some (.ref f_Lrefusal))) (l_Lrefusal : K.lookup f_Lrefusal = some ⟨oc_Lrefusal, od_Lrefusal, .func (PySem.W.fnOf "_law_refusal" "_law_refusal" (defArgs s_Lrefusal) (defBody s_Lrefusal) (defScope s_Lrefusal) .none kV_Lrefusal dc_Lrefusal pm_Lrefusal an_Lrefusal cd_Lrefusal ct_Lrefusal), sl_Lrefusal⟩) (c_Lrefusal : PySem.W.codeIn K cd_Lrefusal "_law_refusal" = true) (k_Lrefusal : PySem.W.keepIn K (.ref f_Lrefusal) = true)
    (a_Lone_part : PySem.W.nsIn K mainGlobals "_law_one_part" = some (some (.ref f_Lone_part))) (l_Lone_part : K.lookup f_Lone_part = some ⟨oc_Lone_part, od_Lone_part, .func (PySem.W.fnOf "_law_one_part" "_law_one_part" (defArgs s_Lone_part) (defBody s_Lone_part) (defScope s_Lone_part) .none kV_Lone_part dc_Lone_part pm_Lone_part an_Lone_part cd_Lone_part ct_Lone_part), sl_Lone_part⟩) (c_Lone_part : PySem.W.codeIn K cd_Lone_part "_law_one_part" = true) (k_Lone_part : PySem.W.keepIn K (.ref f_Lone_part) = true)
    (a_Ldue : PySem.W.nsIn K mainGlobals "_law_due" = some (some (.ref f_Ldue))) (l_Ldue : K.lookup f_Ldue = some ⟨oc_Ldue, od_Ldue, .func (PySem.W.fnOf "_law_due" "_law_due" (defArgs s_Ldue) (defBody s_Ldue) (defScope s_Ldue) .none kV_Ldue dc_Ldue pm_Ldue an_Ldue cd_Ldue ct_Ldue), sl_Ldue⟩) (c_Ldue : PySem.W.codeIn K cd_Ldue "_law_due" = true) (k_Ldue : PySem.W.keepIn K (.ref f_Ldue) = true)
    (a_law : PySem.W.nsIn K mainGlobals "law" = some (some (.ref f_law))) (l_law : K.lookup f_law = some ⟨oc_law, od_law, .func (PySem.W.fnOf "law" "law" (defArgs s_law) (defBody s_law) (defScope s_law) .none kV_law dc_law pm_law an_law cd_law ct_law), sl_law⟩) (c_law : PySem.W.codeIn K cd_law "law" = true) (k_law : PySem.W.keepIn K (.ref f_law) = true) (z_list : PySem.W.nsIn K mainGlobals "list" = some none) (z_range : PySem.W.nsIn K mainGlobals "range" = some none) (z_min : PySem.W.nsIn K mainGlobals "min" = some none) (z_max : PySem.W.nsIn K mainGlobals "max" = some none) (z_sorted : PySem.W.nsIn K mainGlobals "sorted" = some none) (z_len : PySem.W.nsIn K mainGlobals "len" = some none) (z_tuple : PySem.W.nsIn K mainGlobals "tuple" = some none) (z_abs : PySem.W.nsIn K mainGlobals "abs" = some none) (z_set : PySem.W.nsIn K mainGlobals "set" = some none) (z_isinstance : PySem.W.nsIn K mainGlobals "isinstance" = some none) (z_ValueError : PySem.W.nsIn K mainGlobals "ValueError" = some none) (z_int : PySem.W.nsIn K mainGlobals "int" = some none) (xa_Apart : PySem.W.nsIn K mainGlobals "Apart" = some (some (.ref C_Apart))) (xa_NoWeb : PySem.W.nsIn K mainGlobals "NoWeb" = some (some (.ref C_NoWeb))) (xa_NoOrder : PySem.W.nsIn K mainGlobals "NoOrder" = some (some (.ref C_NoOrder))) (xa_NoNumber : PySem.W.nsIn K mainGlobals "NoNumber" = some (some (.ref C_NoNumber))) (xa_NoEnd : PySem.W.nsIn K mainGlobals "NoEnd" = some (some (.ref C_NoEnd))) (xa_NoTie : PySem.W.nsIn K mainGlobals "NoTie" = some (some (.ref C_NoTie))) (xa_NoPlace : PySem.W.nsIn K mainGlobals "NoPlace" = some (some (.ref C_NoPlace))) (xa_NoTable : PySem.W.nsIn K mainGlobals "NoTable" = some (some (.ref C_NoTable))) (xa_NoRing : PySem.W.nsIn K mainGlobals "NoRing" = some (some (.ref C_NoRing))) (xa_NoPaper : PySem.W.nsIn K mainGlobals "NoPaper" = some (some (.ref C_NoPaper))) (xa_TooMany : PySem.W.nsIn K mainGlobals "TooMany" = some (some (.ref C_TooMany))) (xa_TooGreat : PySem.W.nsIn K mainGlobals "TooGreat" = some (some (.ref C_TooGreat))) (xa_NoText : PySem.W.nsIn K mainGlobals "NoText" = some (some (.ref C_NoText))) (xa_NoName : PySem.W.nsIn K mainGlobals "NoName" = some (some (.ref C_NoName))) (xa_NoRow : PySem.W.nsIn K mainGlobals "NoRow" = some (some (.ref C_NoRow))) (xa_FloorError : PySem.W.nsIn K mainGlobals "FloorError" = some (some (.ref C_FloorError))) (xq_Apart : PySem.W.excIn K C_Apart [.type "ValueError", .type "Exception", .type "BaseException", .type "object"] "ValueError.__new__" = true) (xk_Apart : PySem.W.keepIn K (.ref C_Apart) = true) (xb_Apart : PySem.W.subIn K (.ref C_Apart) (.type "BaseException") = some true) (xt_Apart : PySem.W.typeIn K (.ref C_Apart) = some (.type "type")) (xchg_Apart : PySem.W.findIn K (.ref C_Apart) "__getattribute__" = some (some (.builtin "BaseException.__getattribute__"))) (xchk_Apart : PySem.W.findIn K (.ref C_Apart) "__getattr__" = some none) (xchs_Apart : PySem.W.subIn K (.ref C_Apart) (.type "BaseException") = some true) (xchd_Apart : PySem.W.hasDictIn K C_Apart = true) (xcha_Apart : PySem.W.findIn K (.ref C_Apart) "__class__" = some (some (.builtin "object.__class__"))) (xchm_Apart : PySem.W.mroIn K C_Apart (.type "object") = some true) (xcn_Apart : PySem.W.specialIn K (.builtin "object.__class__") "__get__" = some (some (.builtin "getset_descriptor.__get__"))) (xct_Apart : PySem.W.takesIn K (.builtin "object.__class__") = some true) (xs_Apart_Apart : PySem.W.subIn K (.ref C_Apart) (.ref C_Apart) = some true) (xd_NoWeb : PySem.W.hasDictIn K C_NoWeb = true) (xt_NoWeb : PySem.W.typeIn K (.ref C_NoWeb) = some (.type "type")) (xs_Apart_NoWeb : PySem.W.subIn K (.ref C_Apart) (.ref C_NoWeb) = some false) (xd_NoOrder : PySem.W.hasDictIn K C_NoOrder = true) (xt_NoOrder : PySem.W.typeIn K (.ref C_NoOrder) = some (.type "type")) (xs_Apart_NoOrder : PySem.W.subIn K (.ref C_Apart) (.ref C_NoOrder) = some false) (xd_NoNumber : PySem.W.hasDictIn K C_NoNumber = true) (xt_NoNumber : PySem.W.typeIn K (.ref C_NoNumber) = some (.type "type")) (xs_Apart_NoNumber : PySem.W.subIn K (.ref C_Apart) (.ref C_NoNumber) = some false) (xd_NoEnd : PySem.W.hasDictIn K C_NoEnd = true) (xt_NoEnd : PySem.W.typeIn K (.ref C_NoEnd) = some (.type "type")) (xs_Apart_NoEnd : PySem.W.subIn K (.ref C_Apart) (.ref C_NoEnd) = some false) (xd_NoTie : PySem.W.hasDictIn K C_NoTie = true) (xt_NoTie : PySem.W.typeIn K (.ref C_NoTie) = some (.type "type")) (xs_Apart_NoTie : PySem.W.subIn K (.ref C_Apart) (.ref C_NoTie) = some false) (xd_NoPlace : PySem.W.hasDictIn K C_NoPlace = true) (xt_NoPlace : PySem.W.typeIn K (.ref C_NoPlace) = some (.type "type")) (xs_Apart_NoPlace : PySem.W.subIn K (.ref C_Apart) (.ref C_NoPlace) = some false) (xd_NoTable : PySem.W.hasDictIn K C_NoTable = true) (xt_NoTable : PySem.W.typeIn K (.ref C_NoTable) = some (.type "type")) (xs_Apart_NoTable : PySem.W.subIn K (.ref C_Apart) (.ref C_NoTable) = some false) (xd_NoRing : PySem.W.hasDictIn K C_NoRing = true) (xt_NoRing : PySem.W.typeIn K (.ref C_NoRing) = some (.type "type")) (xs_Apart_NoRing : PySem.W.subIn K (.ref C_Apart) (.ref C_NoRing) = some false) (xd_NoPaper : PySem.W.hasDictIn K C_NoPaper = true) (xt_NoPaper : PySem.W.typeIn K (.ref C_NoPaper) = some (.type "type")) (xs_Apart_NoPaper : PySem.W.subIn K (.ref C_Apart) (.ref C_NoPaper) = some false) (xd_Apart : PySem.W.hasDictIn K C_Apart = true) (xd_TooMany : PySem.W.hasDictIn K C_TooMany = true) (xt_TooMany : PySem.W.typeIn K (.ref C_TooMany) = some (.type "type")) (xs_Apart_TooMany : PySem.W.subIn K (.ref C_Apart) (.ref C_TooMany) = some false) (xd_TooGreat : PySem.W.hasDictIn K C_TooGreat = true) (xt_TooGreat : PySem.W.typeIn K (.ref C_TooGreat) = some (.type "type")) (xs_Apart_TooGreat : PySem.W.subIn K (.ref C_Apart) (.ref C_TooGreat) = some false) (xd_NoText : PySem.W.hasDictIn K C_NoText = true) (xt_NoText : PySem.W.typeIn K (.ref C_NoText) = some (.type "type")) (xs_Apart_NoText : PySem.W.subIn K (.ref C_Apart) (.ref C_NoText) = some false) (xd_NoName : PySem.W.hasDictIn K C_NoName = true) (xt_NoName : PySem.W.typeIn K (.ref C_NoName) = some (.type "type")) (xs_Apart_NoName : PySem.W.subIn K (.ref C_Apart) (.ref C_NoName) = some false) (xd_NoRow : PySem.W.hasDictIn K C_NoRow = true) (xt_NoRow : PySem.W.typeIn K (.ref C_NoRow) = some (.type "type")) (xs_Apart_NoRow : PySem.W.subIn K (.ref C_Apart) (.ref C_NoRow) = some false) (xs_Apart_ValueError : PySem.W.subIn K (.ref C_Apart) (.type "ValueError") = some true) (xb_FloorError : PySem.W.subIn K (.ref C_FloorError) (.type "BaseException") = some true) (xd_FloorError : PySem.W.hasDictIn K C_FloorError = true) (xt_FloorError : PySem.W.typeIn K (.ref C_FloorError) = some (.type "type")) (xs_Apart_FloorError : PySem.W.subIn K (.ref C_Apart) (.ref C_FloorError) = some true) :
    ∃ fd : FuncData, (∀ (s : Shared) (v : Value), BindsTo s fd ⟨[v], []⟩ [("_law_script", v)]) ∧ ∀ base : Heap, K.In base → base.Ns mainGlobals mg → FnOk P w K mg base (L2N.CX P w) 8 fa fd ["_law_script"] (spD K mg sem_law_716dR 1) := by
  have e : fa = f_law := by
    have e := hfa.symm.trans (PySem.W.mg_of X G a_law)
    cases e; rfl
  rw [e]
  have F_partner := fun_mk (st := s_partner) l_partner c_partner k_partner
  have B_partner := F_partner.binds (ps := ["end"]) fun _ _ _ _ _ _ us hl => match us, hl with | [_], _ => rfl
  have g_partner := PySem.W.mg_of X G a_partner
  have F_parts_by := fun_mk (st := s_parts_by) l_parts_by c_parts_by k_parts_by
  have B_parts_by := F_parts_by.binds (ps := ["many", "ties"]) fun _ _ _ _ _ _ us hl => match us, hl with | [_, _], _ => rfl
  have g_parts_by := PySem.W.mg_of X G a_parts_by
  have F_parts_of := fun_mk (st := s_parts_of) l_parts_of c_parts_of k_parts_of
  have B_parts_of := F_parts_of.binds (ps := ["web"]) fun _ _ _ _ _ _ us hl => match us, hl with | [_], _ => rfl
  have g_parts_of := PySem.W.mg_of X G a_parts_of
  have F_is_one_part := fun_mk (st := s_is_one_part) l_is_one_part c_is_one_part k_is_one_part
  have B_is_one_part := F_is_one_part.binds (ps := ["web"]) fun _ _ _ _ _ _ us hl => match us, hl with | [_], _ => rfl
  have g_is_one_part := PySem.W.mg_of X G a_is_one_part
  have F_look_one_part := fun_mk (st := s_look_one_part) l_look_one_part c_look_one_part k_look_one_part
  have B_look_one_part := F_look_one_part.binds (ps := ["web"]) fun _ _ _ _ _ _ us hl => match us, hl with | [_], _ => rfl
  have g_look_one_part := PySem.W.mg_of X G a_look_one_part
  have F_followers := fun_mk (st := s_followers) l_followers c_followers k_followers
  have B_followers := F_followers.binds (ps := ["web", "order"]) fun _ _ _ _ _ _ us hl => match us, hl with | [_, _], _ => rfl
  have g_followers := PySem.W.mg_of X G a_followers
  have F_numbered := fun_mk (st := s_numbered) l_numbered c_numbered k_numbered
  have B_numbered := F_numbered.binds (ps := ["after", "begin"]) fun _ _ _ _ _ _ us hl => match us, hl with | [_, _], _ => rfl
  have g_numbered := PySem.W.mg_of X G a_numbered
  have F_coded := fun_mk (st := s_coded) l_coded c_coded k_coded
  have B_coded := F_coded.binds (ps := ["after", "row"]) fun _ _ _ _ _ _ us hl => match us, hl with | [_, _], _ => rfl
  have g_coded := PySem.W.mg_of X G a_coded
  have F_code_from := fun_mk (st := s_code_from) l_code_from c_code_from k_code_from
  have B_code_from := F_code_from.binds (ps := ["web", "order", "end"]) fun _ _ _ _ _ _ us hl => match us, hl with | [_, _, _], _ => rfl
  have g_code_from := PySem.W.mg_of X G a_code_from
  have F_code := fun_mk (st := s_code) l_code c_code k_code
  have B_code := F_code.binds (ps := ["web", "order"]) fun _ _ _ _ _ _ us hl => match us, hl with | [_, _], _ => rfl
  have g_code := PySem.W.mg_of X G a_code
  have F_renamings := fun_mk (st := s_renamings) l_renamings c_renamings k_renamings
  have B_renamings := F_renamings.binds (ps := ["after", "its_after"]) fun _ _ _ _ _ _ us hl => match us, hl with | [_, _], _ => rfl
  have g_renamings := PySem.W.mg_of X G a_renamings
  have F_alike := fun_mk (st := s_alike) l_alike c_alike k_alike
  have B_alike := F_alike.binds (ps := ["one", "order", "other", "its_order"]) fun _ _ _ _ _ _ us hl => match us, hl with | [_, _, _, _], _ => rfl
  have g_alike := PySem.W.mg_of X G a_alike
  have F_turnings := fun_mk (st := s_turnings) l_turnings c_turnings k_turnings
  have B_turnings := F_turnings.binds (ps := ["web", "order"]) fun _ _ _ _ _ _ us hl => match us, hl with | [_, _], _ => rfl
  have g_turnings := PySem.W.mg_of X G a_turnings
  have F_Lpen := fun_mk (st := s_Lpen) l_Lpen c_Lpen k_Lpen
  have B_Lpen := F_Lpen.binds (ps := ["_law_script"]) fun _ _ _ _ _ _ us hl => match us, hl with | [_], _ => rfl
  have g_Lpen := PySem.W.mg_of X G a_Lpen
  have F_Ldraw := fun_mk (st := s_Ldraw) l_Ldraw c_Ldraw k_Ldraw
  have B_Ldraw := F_Ldraw.binds (ps := ["_law_pen_here", "_law_many"]) fun _ _ _ _ _ _ us hl => match us, hl with | [_, _], _ => rfl
  have g_Ldraw := PySem.W.mg_of X G a_Ldraw
  have F_Lweb := fun_mk (st := s_Lweb) l_Lweb c_Lweb k_Lweb
  have B_Lweb := F_Lweb.binds (ps := ["_law_pen_here", "_law_places", "_law_ties"]) fun _ _ _ _ _ _ us hl => match us, hl with | [_, _, _], _ => rfl
  have g_Lweb := PySem.W.mg_of X G a_Lweb
  have F_Lorder := fun_mk (st := s_Lorder) l_Lorder c_Lorder k_Lorder
  have B_Lorder := F_Lorder.binds (ps := ["_law_pen_here", "_law_web_here"]) fun _ _ _ _ _ _ us hl => match us, hl with | [_, _], _ => rfl
  have g_Lorder := PySem.W.mg_of X G a_Lorder
  have F_Lparts := fun_mk (st := s_Lparts) l_Lparts c_Lparts k_Lparts
  have B_Lparts := F_Lparts.binds (ps := ["_law_web_here"]) fun _ _ _ _ _ _ us hl => match us, hl with | [_], _ => rfl
  have g_Lparts := PySem.W.mg_of X G a_Lparts
  have F_Lturnings := fun_mk (st := s_Lturnings) l_Lturnings c_Lturnings k_Lturnings
  have B_Lturnings := F_Lturnings.binds (ps := ["_law_asked"]) fun _ _ _ _ _ _ us hl => match us, hl with | [_], _ => rfl
  have g_Lturnings := PySem.W.mg_of X G a_Lturnings
  have F_Lcode_from := fun_mk (st := s_Lcode_from) l_Lcode_from c_Lcode_from k_Lcode_from
  have B_Lcode_from := F_Lcode_from.binds (ps := ["_law_asked"]) fun _ _ _ _ _ _ us hl => match us, hl with | [_], _ => rfl
  have g_Lcode_from := PySem.W.mg_of X G a_Lcode_from
  have F_Lcode := fun_mk (st := s_Lcode) l_Lcode c_Lcode k_Lcode
  have B_Lcode := F_Lcode.binds (ps := ["_law_asked"]) fun _ _ _ _ _ _ us hl => match us, hl with | [_], _ => rfl
  have g_Lcode := PySem.W.mg_of X G a_Lcode
  have F_Lalike := fun_mk (st := s_Lalike) l_Lalike c_Lalike k_Lalike
  have B_Lalike := F_Lalike.binds (ps := ["_law_asked"]) fun _ _ _ _ _ _ us hl => match us, hl with | [_], _ => rfl
  have g_Lalike := PySem.W.mg_of X G a_Lalike
  have F_Lrefusal := fun_mk (st := s_Lrefusal) l_Lrefusal c_Lrefusal k_Lrefusal
  have B_Lrefusal := F_Lrefusal.binds (ps := ["_law_call", "_law_things"]) fun _ _ _ _ _ _ us hl => match us, hl with | [_, _], _ => rfl
  have g_Lrefusal := PySem.W.mg_of X G a_Lrefusal
  have F_Lone_part := fun_mk (st := s_Lone_part) l_Lone_part c_Lone_part k_Lone_part
  have B_Lone_part := F_Lone_part.binds (ps := ["_law_pen_here", "_law_limit"]) fun _ _ _ _ _ _ us hl => match us, hl with | [_, _], _ => rfl
  have g_Lone_part := PySem.W.mg_of X G a_Lone_part
  have F_Ldue := fun_mk (st := s_Ldue) l_Ldue c_Ldue k_Ldue
  have B_Ldue := F_Ldue.binds (ps := ["_law_webs"]) fun _ _ _ _ _ _ us hl => match us, hl with | [_], _ => rfl
  have g_Ldue := PySem.W.mg_of X G a_Ldue
  have F_law := fun_mk (st := s_law) l_law c_law k_law
  have B_law := F_law.binds (ps := ["_law_script"]) fun _ _ _ _ _ _ us hl => match us, hl with | [_], _ => rfl
  have g_law := PySem.W.mg_of X G a_law
  have y_list := PySem.W.mg_none_of X G z_list
  have y_range := PySem.W.mg_none_of X G z_range
  have y_min := PySem.W.mg_none_of X G z_min
  have y_max := PySem.W.mg_none_of X G z_max
  have y_sorted := PySem.W.mg_none_of X G z_sorted
  have y_len := PySem.W.mg_none_of X G z_len
  have y_tuple := PySem.W.mg_none_of X G z_tuple
  have y_abs := PySem.W.mg_none_of X G z_abs
  have y_set := PySem.W.mg_none_of X G z_set
  have y_isinstance := PySem.W.mg_none_of X G z_isinstance
  have y_ValueError := PySem.W.mg_none_of X G z_ValueError
  have y_int := PySem.W.mg_none_of X G z_int
  have gx_Apart := PySem.W.mg_of X G xa_Apart
  have gx_NoWeb := PySem.W.mg_of X G xa_NoWeb
  have gx_NoOrder := PySem.W.mg_of X G xa_NoOrder
  have gx_NoNumber := PySem.W.mg_of X G xa_NoNumber
  have gx_NoEnd := PySem.W.mg_of X G xa_NoEnd
  have gx_NoTie := PySem.W.mg_of X G xa_NoTie
  have gx_NoPlace := PySem.W.mg_of X G xa_NoPlace
  have gx_NoTable := PySem.W.mg_of X G xa_NoTable
  have gx_NoRing := PySem.W.mg_of X G xa_NoRing
  have gx_NoPaper := PySem.W.mg_of X G xa_NoPaper
  have gx_TooMany := PySem.W.mg_of X G xa_TooMany
  have gx_TooGreat := PySem.W.mg_of X G xa_TooGreat
  have gx_NoText := PySem.W.mg_of X G xa_NoText
  have gx_NoName := PySem.W.mg_of X G xa_NoName
  have gx_NoRow := PySem.W.mg_of X G xa_NoRow
  have gx_FloorError := PySem.W.mg_of X G xa_FloorError
  have x_Apart : ExK K mg "Apart" C_Apart := ⟨gx_Apart, xq_Apart, xk_Apart, xb_Apart, xt_Apart⟩
  have xc_Apart : ExcC K C_Apart := ⟨xchg_Apart, xchk_Apart, xchs_Apart, xchd_Apart, xcha_Apart, xcn_Apart, xct_Apart, xchm_Apart⟩
  have kk_Apart_NoWeb : PySem.W.kitOne K (.ref C_Apart) (.ref C_NoWeb) = some false := (kit_ref xs_Apart_Apart xd_NoWeb xt_NoWeb xs_Apart_NoWeb)
  have kk_Apart_NoOrder : PySem.W.kitOne K (.ref C_Apart) (.ref C_NoOrder) = some false := (kit_ref xs_Apart_Apart xd_NoOrder xt_NoOrder xs_Apart_NoOrder)
  have kk_Apart_NoNumber : PySem.W.kitOne K (.ref C_Apart) (.ref C_NoNumber) = some false := (kit_ref xs_Apart_Apart xd_NoNumber xt_NoNumber xs_Apart_NoNumber)
  have kk_Apart_NoEnd : PySem.W.kitOne K (.ref C_Apart) (.ref C_NoEnd) = some false := (kit_ref xs_Apart_Apart xd_NoEnd xt_NoEnd xs_Apart_NoEnd)
  have kk_Apart_NoTie : PySem.W.kitOne K (.ref C_Apart) (.ref C_NoTie) = some false := (kit_ref xs_Apart_Apart xd_NoTie xt_NoTie xs_Apart_NoTie)
  have kk_Apart_NoPlace : PySem.W.kitOne K (.ref C_Apart) (.ref C_NoPlace) = some false := (kit_ref xs_Apart_Apart xd_NoPlace xt_NoPlace xs_Apart_NoPlace)
  have kk_Apart_NoTable : PySem.W.kitOne K (.ref C_Apart) (.ref C_NoTable) = some false := (kit_ref xs_Apart_Apart xd_NoTable xt_NoTable xs_Apart_NoTable)
  have kk_Apart_NoRing : PySem.W.kitOne K (.ref C_Apart) (.ref C_NoRing) = some false := (kit_ref xs_Apart_Apart xd_NoRing xt_NoRing xs_Apart_NoRing)
  have kk_Apart_NoPaper : PySem.W.kitOne K (.ref C_Apart) (.ref C_NoPaper) = some false := (kit_ref xs_Apart_Apart xd_NoPaper xt_NoPaper xs_Apart_NoPaper)
  have kk_Apart_Apart : PySem.W.kitOne K (.ref C_Apart) (.ref C_Apart) = some true := (kit_ref xs_Apart_Apart xd_Apart xt_Apart xs_Apart_Apart)
  have kk_Apart_TooMany : PySem.W.kitOne K (.ref C_Apart) (.ref C_TooMany) = some false := (kit_ref xs_Apart_Apart xd_TooMany xt_TooMany xs_Apart_TooMany)
  have kk_Apart_TooGreat : PySem.W.kitOne K (.ref C_Apart) (.ref C_TooGreat) = some false := (kit_ref xs_Apart_Apart xd_TooGreat xt_TooGreat xs_Apart_TooGreat)
  have kk_Apart_NoText : PySem.W.kitOne K (.ref C_Apart) (.ref C_NoText) = some false := (kit_ref xs_Apart_Apart xd_NoText xt_NoText xs_Apart_NoText)
  have kk_Apart_NoName : PySem.W.kitOne K (.ref C_Apart) (.ref C_NoName) = some false := (kit_ref xs_Apart_Apart xd_NoName xt_NoName xs_Apart_NoName)
  have kk_Apart_NoRow : PySem.W.kitOne K (.ref C_Apart) (.ref C_NoRow) = some false := (kit_ref xs_Apart_Apart xd_NoRow xt_NoRow xs_Apart_NoRow)
  have kk_Apart_ValueError : PySem.W.kitOne K (.ref C_Apart) (.type "ValueError") = some true := (kit_bty (by decide +kernel) xs_Apart_ValueError)
  have xe_Apart_FloorError : PySem.W.exmOne K (.ref C_Apart) (.ref C_FloorError) = some true := PySem.W.exm_ref xb_FloorError xd_FloorError xt_FloorError xs_Apart_FloorError
  refine ⟨PySem.W.fnOf "law" "law" (defArgs s_law) (defBody s_law) (defScope s_law) .none kV_law dc_law pm_law an_law cd_law ct_law, fun s v => .of_eq rfl, fun base _ _ => ?_⟩
  have G_partner : FnOk P w K mg base (L2N.CX P w) 1 f_partner _ ["end"] (spD K mg sem_partner_1131 1) := ok_partner (k := 0) F_partner 
  have G_parts_by : FnOk P w K mg base (L2N.CX P w) 1 f_parts_by _ ["many", "ties"] (spD K mg sem_parts_by_ccdf 2) := ok_parts_by (k := 0) F_parts_by y_list y_range y_min y_max y_sorted
  have G_parts_of : FnOk P w K mg base (L2N.CX P w) 2 f_parts_of _ ["web"] (spD K mg sem_parts_of_a581 1) := ok_parts_of (k := 1) F_parts_of (G_parts_by.mono (by decide : 1 ≤ 1)) g_parts_by k_parts_by B_parts_by
  have G_is_one_part : FnOk P w K mg base (L2N.CX P w) 3 f_is_one_part _ ["web"] (spD K mg sem_is_one_part_3b38 1) := ok_is_one_part (k := 2) F_is_one_part (G_parts_of.mono (by decide : 2 ≤ 2)) g_parts_of k_parts_of B_parts_of y_len
  have G_look_one_part : FnOk P w K mg base (L2N.CX P w) 4 f_look_one_part _ ["web"] (spD K mg sem_look_one_part_304cR 1) := ok_look_one_part (k := 3) F_look_one_part (G_is_one_part.mono (by decide : 3 ≤ 3)) g_is_one_part k_is_one_part B_is_one_part x_Apart
  have G_followers : FnOk P w K mg base (L2N.CX P w) 1 f_followers _ ["web", "order"] (spD K mg sem_followers_13ce 2) := ok_followers (k := 0) F_followers y_len y_range
  have G_numbered : FnOk P w K mg base (L2N.CX P w) 2 f_numbered _ ["after", "begin"] (spD K mg sem_numbered_8309 2) := ok_numbered (k := 1) F_numbered (G_partner.mono (by decide : 1 ≤ 1)) g_partner k_partner B_partner y_len y_range
  have G_coded : FnOk P w K mg base (L2N.CX P w) 2 f_coded _ ["after", "row"] (spD K mg sem_coded_69cd 2) := ok_coded (k := 1) F_coded (G_partner.mono (by decide : 1 ≤ 1)) g_partner k_partner B_partner y_len y_range y_tuple
  have G_code_from : FnOk P w K mg base (L2N.CX P w) 5 f_code_from _ ["web", "order", "end"] (spD K mg sem_code_from_7a97R 3) := ok_code_from (k := 4) F_code_from (G_look_one_part.mono (by decide : 4 ≤ 4)) g_look_one_part k_look_one_part B_look_one_part (G_followers.mono (by decide : 1 ≤ 4)) g_followers k_followers B_followers (G_coded.mono (by decide : 2 ≤ 4)) g_coded k_coded B_coded (G_numbered.mono (by decide : 2 ≤ 4)) g_numbered k_numbered B_numbered
  have G_code : FnOk P w K mg base (L2N.CX P w) 5 f_code _ ["web", "order"] (spD K mg sem_code_8358R 2) := ok_code (k := 4) F_code (G_look_one_part.mono (by decide : 4 ≤ 4)) g_look_one_part k_look_one_part B_look_one_part (G_followers.mono (by decide : 1 ≤ 4)) g_followers k_followers B_followers (G_coded.mono (by decide : 2 ≤ 4)) g_coded k_coded B_coded (G_numbered.mono (by decide : 2 ≤ 4)) g_numbered k_numbered B_numbered y_len y_range y_min
  have G_renamings : FnOk P w K mg base (L2N.CX P w) 3 f_renamings _ ["after", "its_after"] (spD K mg sem_renamings_c35d 2) := ok_renamings (k := 2) F_renamings (G_numbered.mono (by decide : 2 ≤ 2)) g_numbered k_numbered B_numbered (G_coded.mono (by decide : 2 ≤ 2)) g_coded k_coded B_coded y_len y_range y_tuple
  have G_alike : FnOk P w K mg base (L2N.CX P w) 5 f_alike _ ["one", "order", "other", "its_order"] (spD K mg sem_alike_4846R 4) := ok_alike (k := 4) F_alike (G_look_one_part.mono (by decide : 4 ≤ 4)) g_look_one_part k_look_one_part B_look_one_part (G_renamings.mono (by decide : 3 ≤ 4)) g_renamings k_renamings B_renamings (G_followers.mono (by decide : 1 ≤ 4)) g_followers k_followers B_followers y_len
  have G_turnings : FnOk P w K mg base (L2N.CX P w) 5 f_turnings _ ["web", "order"] (spD K mg sem_turnings_9f26R 2) := ok_turnings (k := 4) F_turnings (G_look_one_part.mono (by decide : 4 ≤ 4)) g_look_one_part k_look_one_part B_look_one_part (G_followers.mono (by decide : 1 ≤ 4)) g_followers k_followers B_followers (G_renamings.mono (by decide : 3 ≤ 4)) g_renamings k_renamings B_renamings
  have G_Lpen : FnOk P w K mg base (L2N.CX P w) 1 f_Lpen _ ["_law_script"] (spD K mg sem_Lpen_3d2f 1) := ok_Lpen (k := 0) F_Lpen 
  have G_Ldraw : FnOk P w K mg base (L2N.CX P w) 1 f_Ldraw _ ["_law_pen_here", "_law_many"] (spD K mg sem_Ldraw_de5b 2) := ok_Ldraw (k := 0) F_Ldraw y_len y_abs
  have G_Lweb : FnOk P w K mg base (L2N.CX P w) 2 f_Lweb _ ["_law_pen_here", "_law_places", "_law_ties"] (spD K mg sem_Lweb_0350 3) := ok_Lweb (k := 1) F_Lweb (G_Ldraw.mono (by decide : 1 ≤ 1)) g_Ldraw k_Ldraw B_Ldraw y_range y_min y_tuple
  have G_Lorder : FnOk P w K mg base (L2N.CX P w) 2 f_Lorder _ ["_law_pen_here", "_law_web_here"] (spD K mg sem_Lorder_8e8e 2) := ok_Lorder (k := 1) F_Lorder (G_Ldraw.mono (by decide : 1 ≤ 1)) g_Ldraw k_Ldraw B_Ldraw y_range y_len y_max y_min y_tuple
  have G_Lparts : FnOk P w K mg base (L2N.CX P w) 1 f_Lparts _ ["_law_web_here"] (spD K mg sem_Lparts_9bff 1) := ok_Lparts (k := 0) F_Lparts y_list y_range y_min y_max y_sorted y_set
  have G_Lturnings : FnOk P w K mg base (L2N.CX P w) 6 f_Lturnings _ ["_law_asked"] (spD K mg sem_Lturnings_e7f3R 1) := ok_Lturnings (k := 5) F_Lturnings (G_turnings.mono (by decide : 5 ≤ 5)) g_turnings k_turnings B_turnings
  have G_Lcode_from : FnOk P w K mg base (L2N.CX P w) 6 f_Lcode_from _ ["_law_asked"] (spD K mg sem_Lcode_from_df70R 1) := ok_Lcode_from (k := 5) F_Lcode_from (G_code_from.mono (by decide : 5 ≤ 5)) g_code_from k_code_from B_code_from
  have G_Lcode : FnOk P w K mg base (L2N.CX P w) 6 f_Lcode _ ["_law_asked"] (spD K mg sem_Lcode_e2cbR 1) := ok_Lcode (k := 5) F_Lcode (G_code.mono (by decide : 5 ≤ 5)) g_code k_code B_code
  have G_Lalike : FnOk P w K mg base (L2N.CX P w) 6 f_Lalike _ ["_law_asked"] (spD K mg sem_Lalike_7b14R 1) := ok_Lalike (k := 5) F_Lalike (G_alike.mono (by decide : 5 ≤ 5)) g_alike k_alike B_alike
  have G_Lrefusal : FnOk P w K mg base (L2N.CX P w) 7 f_Lrefusal _ ["_law_call", "_law_things"] (spD K mg sem_Lrefusal_a658R 2) := ok_Lrefusal (k := 6) F_Lrefusal (G_Lturnings.mono (by decide : 6 ≤ 6)) g_Lturnings k_Lturnings B_Lturnings (G_Lcode_from.mono (by decide : 6 ≤ 6)) g_Lcode_from k_Lcode_from B_Lcode_from (G_Lcode.mono (by decide : 6 ≤ 6)) g_Lcode k_Lcode B_Lcode (G_Lalike.mono (by decide : 6 ≤ 6)) g_Lalike k_Lalike B_Lalike a_Lturnings a_Lcode_from a_Lcode a_Lalike y_isinstance y_ValueError y_range gx_NoWeb xc_Apart kk_Apart_NoWeb gx_NoOrder kk_Apart_NoOrder gx_NoNumber kk_Apart_NoNumber gx_NoEnd kk_Apart_NoEnd gx_NoTie kk_Apart_NoTie gx_NoPlace kk_Apart_NoPlace gx_NoTable kk_Apart_NoTable gx_NoRing kk_Apart_NoRing gx_NoPaper kk_Apart_NoPaper gx_Apart kk_Apart_Apart gx_TooMany kk_Apart_TooMany gx_TooGreat kk_Apart_TooGreat gx_NoText kk_Apart_NoText gx_NoName kk_Apart_NoName gx_NoRow kk_Apart_NoRow kk_Apart_ValueError x_Apart xe_Apart_FloorError gx_FloorError
  have G_Lone_part : FnOk P w K mg base (L2N.CX P w) 2 f_Lone_part _ ["_law_pen_here", "_law_limit"] (spD K mg sem_Lone_part_805b 2) := ok_Lone_part (k := 1) F_Lone_part (G_Ldraw.mono (by decide : 1 ≤ 1)) g_Ldraw k_Ldraw B_Ldraw y_min y_max y_range y_len y_tuple
  have G_Ldue : FnOk P w K mg base (L2N.CX P w) 2 f_Ldue _ ["_law_webs"] (spD K mg sem_Ldue_cbcf 1) := ok_Ldue (k := 1) F_Ldue (G_Lparts.mono (by decide : 1 ≤ 1)) g_Lparts k_Lparts B_Lparts y_len
  have G_law : FnOk P w K mg base (L2N.CX P w) 8 f_law _ ["_law_script"] (spD K mg sem_law_716dR 1) := ok_law (k := 7) F_law (G_Lpen.mono (by decide : 1 ≤ 7)) g_Lpen k_Lpen B_Lpen (G_Lweb.mono (by decide : 2 ≤ 7)) g_Lweb k_Lweb B_Lweb (G_Lone_part.mono (by decide : 2 ≤ 7)) g_Lone_part k_Lone_part B_Lone_part (G_Ldraw.mono (by decide : 1 ≤ 7)) g_Ldraw k_Ldraw B_Ldraw (G_Lorder.mono (by decide : 2 ≤ 7)) g_Lorder k_Lorder B_Lorder (G_Lrefusal.mono (by decide : 7 ≤ 7)) g_Lrefusal k_Lrefusal B_Lrefusal (G_Lalike.mono (by decide : 6 ≤ 7)) g_Lalike k_Lalike B_Lalike (G_Ldue.mono (by decide : 2 ≤ 7)) g_Ldue k_Ldue B_Ldue (G_Lcode.mono (by decide : 6 ≤ 7)) g_Lcode k_Lcode B_Lcode (G_Lturnings.mono (by decide : 6 ≤ 7)) g_Lturnings k_Lturnings B_Lturnings (G_Lcode_from.mono (by decide : 6 ≤ 7)) g_Lcode_from k_Lcode_from B_Lcode_from a_Lalike a_Lcode a_Lturnings a_Lcode_from y_range y_len y_int
  exact G_law
end
end Lw
end

section
namespace Lw
open PySem DL
theorem law_true (ns : List Int) (h : ns.length ≤ 63) : ∃ ys, ys.length = 1 ∧ sem_law_716dR [.fz (scrD ns)] = some (.ok (.val (.bool true)), ys) := by
  obtain ⟨o, ys, e, rfl, hl⟩ := law80_ok ns h
  exact ⟨ys, hl, e⟩
end Lw
end

section
open PySem PySem.W PyProof.Rows
set_option maxRecDepth 100000 in
set_option maxHeartbeats 0 in
theorem PySem.Challenge.cw_holefloor_k80_floors_of_several_parts_holds : PySem.Challenge.rw_holefloor_k80_floors_of_several_parts.Holds := by
  w_on; o_law; k_head; (case hw => w_witness2)
  k_fill
  refine DL.walk_d (l := PySem.Challenge.rw_holefloor_k80_floors_of_several_parts) (n := 63) (k := 8) (x := "_law_script") (sem := Lw.sem_law_716dR) rfl (by decide) rfl ⟨rfl, by decide, by decide⟩ (fun w h Y => PySem.W.kIn_of Y) Lw.law_true ?F
  case F =>
    intro w mg fa h KX G hmg
    refine' Lw.all_mk KX G hmg ?a_partner ?l_partner ?c_partner ?k_partner ?a_parts_by ?l_parts_by ?c_parts_by ?k_parts_by ?a_parts_of ?l_parts_of ?c_parts_of ?k_parts_of ?a_is_one_part ?l_is_one_part ?c_is_one_part ?k_is_one_part ?a_look_one_part ?l_look_one_part ?c_look_one_part ?k_look_one_part ?a_followers ?l_followers ?c_followers ?k_followers ?a_numbered ?l_numbered ?c_numbered ?k_numbered ?a_coded ?l_coded ?c_coded ?k_coded ?a_code_from ?l_code_from ?c_code_from ?k_code_from ?a_code ?l_code ?c_code ?k_code ?a_renamings ?l_renamings ?c_renamings ?k_renamings ?a_alike ?l_alike ?c_alike ?k_alike ?a_turnings ?l_turnings ?c_turnings ?k_turnings ?a_Lpen ?l_Lpen ?c_Lpen ?k_Lpen ?a_Ldraw ?l_Ldraw ?c_Ldraw ?k_Ldraw ?a_Lweb ?l_Lweb ?c_Lweb ?k_Lweb ?a_Lorder ?l_Lorder ?c_Lorder ?k_Lorder ?a_Lparts ?l_Lparts ?c_Lparts ?k_Lparts ?a_Lturnings ?l_Lturnings ?c_Lturnings ?k_Lturnings ?a_Lcode_from ?l_Lcode_from ?c_Lcode_from ?k_Lcode_from ?a_Lcode ?l_Lcode ?c_Lcode ?k_Lcode ?a_Lalike ?l_Lalike ?c_Lalike ?k_Lalike ?a_Lrefusal ?l_Lrefusal ?c_Lrefusal ?k_Lrefusal ?a_Lone_part ?l_Lone_part ?c_Lone_part ?k_Lone_part ?a_Ldue ?l_Ldue ?c_Ldue ?k_Ldue ?a_law ?l_law ?c_law ?k_law ?z_list ?z_range ?z_min ?z_max ?z_sorted ?z_len ?z_tuple ?z_abs ?z_set ?z_isinstance ?z_ValueError ?z_int ?xa_Apart ?xa_NoWeb ?xa_NoOrder ?xa_NoNumber ?xa_NoEnd ?xa_NoTie ?xa_NoPlace ?xa_NoTable ?xa_NoRing ?xa_NoPaper ?xa_TooMany ?xa_TooGreat ?xa_NoText ?xa_NoName ?xa_NoRow ?xa_FloorError ?xq_Apart ?xk_Apart ?xb_Apart ?xt_Apart ?xchg_Apart ?xchk_Apart ?xchs_Apart ?xchd_Apart ?xcha_Apart ?xchm_Apart ?xcn_Apart ?xct_Apart ?xs_Apart_Apart ?xd_NoWeb ?xt_NoWeb ?xs_Apart_NoWeb ?xd_NoOrder ?xt_NoOrder ?xs_Apart_NoOrder ?xd_NoNumber ?xt_NoNumber ?xs_Apart_NoNumber ?xd_NoEnd ?xt_NoEnd ?xs_Apart_NoEnd ?xd_NoTie ?xt_NoTie ?xs_Apart_NoTie ?xd_NoPlace ?xt_NoPlace ?xs_Apart_NoPlace ?xd_NoTable ?xt_NoTable ?xs_Apart_NoTable ?xd_NoRing ?xt_NoRing ?xs_Apart_NoRing ?xd_NoPaper ?xt_NoPaper ?xs_Apart_NoPaper ?xd_Apart ?xd_TooMany ?xt_TooMany ?xs_Apart_TooMany ?xd_TooGreat ?xt_TooGreat ?xs_Apart_TooGreat ?xd_NoText ?xt_NoText ?xs_Apart_NoText ?xd_NoName ?xt_NoName ?xs_Apart_NoName ?xd_NoRow ?xt_NoRow ?xs_Apart_NoRow ?xs_Apart_ValueError ?xb_FloorError ?xd_FloorError ?xt_FloorError ?xs_Apart_FloorError
    (case a_partner => k_is); (case l_partner => k_is); (case c_partner => k_is); (case k_partner => k_is); (case a_parts_by => k_is); (case l_parts_by => k_is); (case c_parts_by => k_is); (case k_parts_by => k_is); (case a_parts_of => k_is); (case l_parts_of => k_is); (case c_parts_of => k_is); (case k_parts_of => k_is); (case a_is_one_part => k_is); (case l_is_one_part => k_is); (case c_is_one_part => k_is); (case k_is_one_part => k_is); (case a_look_one_part => k_is); (case l_look_one_part => k_is); (case c_look_one_part => k_is); (case k_look_one_part => k_is); (case a_followers => k_is); (case l_followers => k_is); (case c_followers => k_is); (case k_followers => k_is); (case a_numbered => k_is); (case l_numbered => k_is); (case c_numbered => k_is); (case k_numbered => k_is); (case a_coded => k_is); (case l_coded => k_is); (case c_coded => k_is); (case k_coded => k_is); (case a_code_from => k_is); (case l_code_from => k_is); (case c_code_from => k_is); (case k_code_from => k_is); (case a_code => k_is); (case l_code => k_is); (case c_code => k_is); (case k_code => k_is); (case a_renamings => k_is); (case l_renamings => k_is); (case c_renamings => k_is); (case k_renamings => k_is); (case a_alike => k_is); (case l_alike => k_is); (case c_alike => k_is); (case k_alike => k_is); (case a_turnings => k_is); (case l_turnings => k_is); (case c_turnings => k_is); (case k_turnings => k_is); (case a_Lpen => k_is); (case l_Lpen => k_is); (case c_Lpen => k_is); (case k_Lpen => k_is); (case a_Ldraw => k_is); (case l_Ldraw => k_is); (case c_Ldraw => k_is); (case k_Ldraw => k_is); (case a_Lweb => k_is); (case l_Lweb => k_is); (case c_Lweb => k_is); (case k_Lweb => k_is); (case a_Lorder => k_is); (case l_Lorder => k_is); (case c_Lorder => k_is); (case k_Lorder => k_is); (case a_Lparts => k_is); (case l_Lparts => k_is); (case c_Lparts => k_is); (case k_Lparts => k_is); (case a_Lturnings => k_is); (case l_Lturnings => k_is); (case c_Lturnings => k_is); (case k_Lturnings => k_is); (case a_Lcode_from => k_is); (case l_Lcode_from => k_is); (case c_Lcode_from => k_is); (case k_Lcode_from => k_is); (case a_Lcode => k_is); (case l_Lcode => k_is); (case c_Lcode => k_is); (case k_Lcode => k_is); (case a_Lalike => k_is); (case l_Lalike => k_is); (case c_Lalike => k_is); (case k_Lalike => k_is); (case a_Lrefusal => k_is); (case l_Lrefusal => k_is); (case c_Lrefusal => k_is); (case k_Lrefusal => k_is); (case a_Lone_part => k_is); (case l_Lone_part => k_is); (case c_Lone_part => k_is); (case k_Lone_part => k_is); (case a_Ldue => k_is); (case l_Ldue => k_is); (case c_Ldue => k_is); (case k_Ldue => k_is); (case a_law => k_is); (case l_law => k_is); (case c_law => k_is); (case k_law => k_is); (case z_list => k_is); (case z_range => k_is); (case z_min => k_is); (case z_max => k_is); (case z_sorted => k_is); (case z_len => k_is); (case z_tuple => k_is); (case z_abs => k_is); (case z_set => k_is); (case z_isinstance => k_is); (case z_ValueError => k_is); (case z_int => k_is); (case xa_Apart => k_is); (case xa_NoWeb => k_is); (case xa_NoOrder => k_is); (case xa_NoNumber => k_is); (case xa_NoEnd => k_is); (case xa_NoTie => k_is); (case xa_NoPlace => k_is); (case xa_NoTable => k_is); (case xa_NoRing => k_is); (case xa_NoPaper => k_is); (case xa_TooMany => k_is); (case xa_TooGreat => k_is); (case xa_NoText => k_is); (case xa_NoName => k_is); (case xa_NoRow => k_is); (case xa_FloorError => k_is); (case xq_Apart => k_exc); (case xk_Apart => k_is); (case xb_Apart => k_is); (case xt_Apart => k_is); (case xchg_Apart => k_is); (case xchk_Apart => k_is); (case xchs_Apart => k_is); (case xchd_Apart => k_is); (case xcha_Apart => k_is); (case xchm_Apart => k_is); (case xcn_Apart => k_is); (case xct_Apart => k_is); (case xs_Apart_Apart => k_is); (case xd_NoWeb => k_is); (case xt_NoWeb => k_is); (case xs_Apart_NoWeb => k_is); (case xd_NoOrder => k_is); (case xt_NoOrder => k_is); (case xs_Apart_NoOrder => k_is); (case xd_NoNumber => k_is); (case xt_NoNumber => k_is); (case xs_Apart_NoNumber => k_is); (case xd_NoEnd => k_is); (case xt_NoEnd => k_is); (case xs_Apart_NoEnd => k_is); (case xd_NoTie => k_is); (case xt_NoTie => k_is); (case xs_Apart_NoTie => k_is); (case xd_NoPlace => k_is); (case xt_NoPlace => k_is); (case xs_Apart_NoPlace => k_is); (case xd_NoTable => k_is); (case xt_NoTable => k_is); (case xs_Apart_NoTable => k_is); (case xd_NoRing => k_is); (case xt_NoRing => k_is); (case xs_Apart_NoRing => k_is); (case xd_NoPaper => k_is); (case xt_NoPaper => k_is); (case xs_Apart_NoPaper => k_is); (case xd_Apart => k_is); (case xd_TooMany => k_is); (case xt_TooMany => k_is); (case xs_Apart_TooMany => k_is); (case xd_TooGreat => k_is); (case xt_TooGreat => k_is); (case xs_Apart_TooGreat => k_is); (case xd_NoText => k_is); (case xt_NoText => k_is); (case xs_Apart_NoText => k_is); (case xd_NoName => k_is); (case xt_NoName => k_is); (case xs_Apart_NoName => k_is); (case xd_NoRow => k_is); (case xt_NoRow => k_is); (case xs_Apart_NoRow => k_is); (case xs_Apart_ValueError => k_is); (case xb_FloorError => k_is); (case xd_FloorError => k_is); (case xt_FloorError => k_is); (case xs_Apart_FloorError => k_is)
end
