import PyProof.Rows.All
import PySem.PyData
import PySem.Str
import HandS.ForMost
import HandS.Exc
import HandS.TryOnly
import HandS.ExcOwn
import HandS.WordsExc
import HandS.TupAny
import HandS.HotCalls
import HandS.Lambda
import HandS.ExcInit
import PyProof.P3Statements
import PyProof.Lay0
import HandS.Wide
import HandS.IsInst
import HandS.Deep
import HandS.TupMul
import HandS.Zip
import HandS.Rev
import HandS.More
import HandS.Strs
import HandS.WordsDict
import HandS.Style
import KE.DataMinMax
import KE.SortData
import HandS.SortInts
import HandS.Conv
import KE.GoesMore
import HandS.SetFor
import HandS.SetKeys
import HandS.ExcIs
import HandS.RevRange
import HandS.WideBits
import PyProof.ReprLen
import PyProof.ReprRoads
import KE.KTupSum
import HandS.EndTab
import HandS.Text
import HandS.Dict
import HandS.DictSubView
import HandS.SortKw
import HandS.CallLocal
import PyProof.StrBlock2
import KE.KDictWalk
import KE.KDictList
import KE.KDictSum
import HandS.ClsMeth
import HandS.ExcInitHot
import KE.KExcIs
import HandS.ExcField
import HandS.Codes
import Wide.All
import OpenK.AllK
import Wide.FinOn
import PySem.Challenge.RW_holefloor_k85_no_texts
set_option Elab.async false
set_option linter.all false
set_option maxRecDepth 100000
section
namespace DL
open PySem
abbrev D := PyData
abbrev Ky := Sum Int Str
/-- what an object's attribute, a tuple's place holds: shared data, an owned list, an owned dict, an owned list of owned dicts -/
inductive Fl where
  | d (x : D)
  | lst (ds : List D)
  | dK (kvs : List (Ky × D))
  | ld (rows : List (List (Ky × D)))
/-- what an owned mutable object holds -/
inductive Ct where
  | lst (ds : List D)
  | dK (kvs : List (Ky × D))
  | dT (kvs : List (List Ky × D))
  /-- a list of lists, all of them owned -/
  | ll (rows : List (List D))
  /-- a dict of lists, all of them owned -/
  | dl (kvs : List (Ky × List D))
  /-- a dict of lists, all of them owned but those taken out -/
  | dp (kvs : List (Ky × Option (List D)))
  /-- a tuple of owned things -/
  | tl (fs : List Fl)
  /-- an instance of the module's class C with its attributes -/
  | obj (C : Str) (fs : List (Str × Fl))
  /-- an exception of the module's class C that keeps a row, made and not raised -/
  | exn (C : Str) (n : Int)
  /-- the table of a code object, at P; its codes bear the name q -/
  | tab (P : Nat) (q : Str)
/-- a slot: nothing known; shared data that stands still; an owned object. The Bool: a parameter lent by the caller -/
inductive Sl where
  | non
  | frz (b : Bool) (d : D)
  | own (b : Bool) (c : Ct)
  /-- the k-th list of the list of lists in slot j -/
  | al (j k : Nat)
abbrev Ro := List Sl
/-- an expression's result: data that stands still, or a new object of one's own -/
inductive RV where
  | val (d : D)
  | new (c : Ct)
structure Exn where
  cls : String
  row : Option Int
inductive EO (α : Type) where
  | ok (a : α)
  | exc (x : Exn)
def M (α : Type) := Ro → Option (EO α × Ro)
def M.bind {α β : Type} (m : M α) (f : α → M β) : M β := fun r => match m r with
  | none => none
  | some (.ok a, r') => f a r'
  | some (.exc x, r') => some (.exc x, r')
def M.ret {α : Type} (a : α) : M α := fun r => some (.ok a, r)
def M.of {α : Type} (o : Option α) : M α := fun r => o.map fun a => (.ok a, r)
/-- an operand: a slot looked at when the operation is done, or a value -/
inductive AV where
  | slot (i : Nat)
  | val (d : D)
/-- an operand looked at -/
inductive Rs where
  | fz (d : D)
  | ow (c : Ct)
def look (r : Ro) : AV → Option Rs
  | .val d => some (.fz d)
  | .slot i => match r[i]? with
    | some (.frz _ d) => some (.fz d)
    | some (.own _ c) => some (.ow c)
    | _ => none
/-- no slot looks into slot i -/
def noAl (r : Ro) (i : Nat) : Bool := r.all fun x => match x with
  | .al j _ => j != i
  | _ => true
/-- .. a list in a list of lists, too -/
def look2 (r : Ro) : AV → Option Rs
  | .val d => some (.fz d)
  | .slot i => match r[i]? with
    | some (.frz _ d) => some (.fz d)
    | some (.own _ c) => some (.ow c)
    | some (.al j k) => match r[j]? with
      | some (.own _ (.ll rows)) => rows[k]?.map fun ds => .ow (.lst ds)
      | _ => none
    | _ => none
def looks2 (r : Ro) : List AV → Option (List Rs)
  | [] => some []
  | a :: as => match look2 r a, looks2 r as with
    | some x, some xs => some (x :: xs)
    | _, _ => none
def looks (r : Ro) : List AV → Option (List Rs)
  | [] => some []
  | a :: as => match look r a, looks r as with
    | some x, some xs => some (x :: xs)
    | _, _ => none
def Ct.data : Ct → Option D
  | .lst ds => some (.list ds)
  | _ => none
def Rs.data : Rs → Option D
  | .fz d => some d
  | .ow c => c.data
/-- a new result stands still from now on -/
def RV.data : RV → Option D
  | .val d => some d
  | .new c => c.data
/-- the slot read as a value: what was owned stands still from now on -/
def mRd (i : Nat) : M RV := fun r => match r[i]? with
  | some (.frz _ d) => some (.ok (.val d), r)
  | some (.own b (.lst ds)) => some (.ok (.val (.list ds)), r.set i (.frz b (.list ds)))
  | some (.own b (.ll rows)) => some (.ok (.val (.list (rows.map .list))), r.set i (.frz b (.list (rows.map .list))))
  | _ => none
def mC (d : D) : M RV := M.ret (.val d)
/-- an operand by its slot; by an expression -/
def oS (i : Nat) : M AV := fun r => match look2 r (.slot i) with
  | some _ => some (.ok (.slot i), r)
  | none => none
def oE (m : M RV) : M AV := m.bind fun rv => M.of (rv.data.map .val)
def oL : List (M AV) → M (List AV)
  | [] => M.ret []
  | m :: ms => m.bind fun a => (oL ms).bind fun as => M.ret (a :: as)
/-- the operation, its operands looked at -/
def mFin (g : List Rs → Option RV) (as : List AV) : M RV := fun r => match looks2 r as with
  | none => none
  | some xs => (g xs).map fun v => (.ok v, r)
def mOp (g : List Rs → Option RV) (os : List (M AV)) : M RV := (oL os).bind (mFin g)
end DL
end

section
namespace DL
open PySem PySem.Spec PyProof.Rows L2
def TP (o : Obj) : Prop := o.cls = .type "tuple" ∧ o.dict = none
/-- a tuple whose object is known to have no dict -/
def TupAt (H : Hp) (a : Addr) (xs : List V) : Prop := ∃ o, TP o ∧ H a = some (.frz o (.tup xs))
theorem TupAt.sq {K : PySem.W.Frag} {H : Hp} {a : Addr} {xs : List V} (h : TupAt H a xs) : SqT K H a xs := let ⟨o, _, e⟩ := h; .inl (.inr ⟨o, e⟩)
theorem tup_same {H H' : Hp} {a : Addr} {xs : List V} (e : Same H H') (h : TupAt H a xs) : TupAt H' a xs := let ⟨o, t, q⟩ := h; ⟨o, t, e _ _ q⟩
theorem tupAt_new {H : Hp} {p : Addr} {o : Obj} {xs : List V} (t : TP o) : TupAt (upd H p (.frz o (.tup xs))) p xs := ⟨o, t, upd_same⟩
section
variable {X : Cx} {pins : List (Addr × Obj)} {σ : L2.St} {H : Hp} {s : Shared}
theorem Inv.layT {its : List Value} {xs : List V} {t' : Nat} {h' : Heap} (I : Inv X pins σ H s) (k : ∀ b u, s.heap.get? b = some u → h'.get? b = some u) (hs : h'.objs.size = s.heap.objs.size) (hv : Vals xs its) (hz : xs.length ≤ sizeLine) :
    Inv X pins σ (upd H h'.objs.size (.frz { cls := .type "tuple", data := .seq its.toArray } (.tup xs))) { s with heap := h'.push { cls := .type "tuple", data := .seq its.toArray }, toks := t' } := by
  have e := Heap.get?_push_size h' (o := { cls := .type "tuple", data := .seq its.toArray }) rfl
  exact I.laid (fun b o q => Heap.get?_push_of_some _ (k b o q)) (by rw [hs]; exact Nat.le_refl _) ⟨e, hz, its, hv, ⟨_, e, rfl, _, rfl⟩⟩
theorem fe_tup {es : List Expr} {t : TA} {x1 : Nat} {pos : Pos} (h : PA X es t) : PE X (.Tuple es x1 pos) (fun σ H Q => t σ H fun xs H1 => xs.length ≤ sizeLine ∧ ∀ p o, H1 p = none → TP o → Q (.ref p) (upd H1 p (.frz o (.tup xs)))) := by
  refine ⟨fun pins s σ H Q I hq => ?_⟩
  refine wpAny_Tuple_spliced (thn (h.run pos pins s σ H _ I hq) fun us s1 ⟨xs, H1, I1, r, z, q⟩ => ⟨by rw [← r.length]; exact z, ?_⟩)
  have hf : H1 s1.heap.objs.size = none := I1.hok.fresh (Nat.le_refl _)
  exact ⟨.ref s1.heap.objs.size, _, Inv.layT (t' := s1.toks) I1 (fun b u e => e) rfl r z, rfl, q _ _ hf ⟨rfl, rfl⟩⟩
theorem fcall_tuple : CallR X (.type "tuple") (fun xs H Q => ∃ p ys, xs = [.ref p] ∧ ((SqL X.K H p ys ∧ ∀ l o, H l = none → TP o → Q (.ref l) (upd H l (.frz o (.tup ys)))) ∨ (SqT X.K H p ys ∧ Q (.ref p) H))) := by
  intro pins s σ H xs us Q I r h
  obtain ⟨p, ys, rfl, h⟩ := h
  obtain ⟨u, rfl, rx⟩ := vals1 r
  cases rx
  rcases h with ⟨hq, q⟩ | ⟨hq, q⟩
  · obtain ⟨its, r', pl, hz⟩ := I.list hq
    have hlen := r'.length
    refine call_tuple_list pl.isList (fun h' kp => ?_) (by simp only [List.size_toArray] <;> omega)
    have I1 : Inv X pins σ H { s with heap := h' } := I.kept (t' := s.toks) kp
    exact ⟨.ref h'.objs.size, _, Inv.layT (s := { s with heap := h' }) (t' := s.toks) I1 (fun b u e => e) rfl r' hz, rfl, q _ _ (I1.hok.fresh (Nat.le_refl _)) ⟨rfl, rfl⟩⟩
  · obtain ⟨its, r', pl, hz⟩ := I.tuple hq
    exact call_tuple_same pl ⟨.ref p, H, I, rfl, q⟩
theorem fop_cat : OpR X (binaryOp .Add) (fun x y H Q => ∃ a b xs ys, x = .ref a ∧ y = .ref b ∧ SqT X.K H a xs ∧ SqT X.K H b ys ∧ xs.length + ys.length ≤ sizeLine ∧
    (xs = [] → Q (.ref b) H) ∧ (xs ≠ [] → ys = [] → Q (.ref a) H) ∧ (xs ≠ [] → ys ≠ [] → ∀ p o, H p = none → TP o → Q (.ref p) (upd H p (.frz o (.tup (xs ++ ys)))))) := by
  intro pins s σ H x y v u Q I rx ry h
  obtain ⟨a, b, xs, ys, rfl, rfl, ha, hb, hz, q0, q1, q2⟩ := h
  cases rx
  cases ry
  obtain ⟨its, r1, p1, _⟩ := I.tuple ha
  obtain ⟨its2, r2, p2, _⟩ := I.tuple hb
  by_cases hx : xs = []
  · subst hx
    cases r1
    exact cat_tup0 p1 p2 ⟨.ref b, H, I, rfl, q0 rfl⟩
  · refine HT.cat_tup p1 p2 (fun z => hx (r1.nil_iff.mp z)) (fun z => ⟨.ref a, H, I, rfl, q1 hx (r2.nil_iff.mp z)⟩) (fun z => ?_) (by rw [← r1.length, ← r2.length]; exact hz)
    exact ⟨.ref s.heap.objs.size, _, Inv.layT (t' := s.toks) I (fun b u e => e) rfl (r1.append r2) (by rw [List.length_append]; exact hz), rfl, q2 hx (fun w => z (r2.nil_iff.mpr w)) _ _ (I.hok.fresh (Nat.le_refl _)) ⟨rfl, rfl⟩⟩
def rSlF (K : PySem.W.Frag) : V → Option Int → Option Int → Hp → VK → Prop := fun x lo hi H Q => ∃ a xs, x = .ref a ∧ SqT K H a xs ∧
  (HT.sIx xs.length 0 lo = 0 ∧ HT.sIx xs.length xs.length hi = xs.length → Q (.ref a) H) ∧ (¬ (HT.sIx xs.length 0 lo = 0 ∧ HT.sIx xs.length xs.length hi = xs.length) → ∀ p o, H p = none → TP o → Q (.ref p) (upd H p (.frz o (.tup (cutV xs lo hi)))))
theorem fsl_tup : SlR X (rSlF X.K) := by
  intro pins s σ H x v vl vu lo hi sl Q I rx hs pl pu h
  obtain ⟨a, xs, rfl, hx, q1, q2⟩ := h
  cases rx
  obtain ⟨its, r, ht, hz⟩ := I.tuple hx
  have hlen : its.toArray.size = xs.length := by rw [List.size_toArray]; exact r.length.symm
  refine ⟨"tuple", _, PyProof.Rows.slot_tuple_getitem.lookup, ht.typeIs, ?_⟩
  by_cases hw : HT.sIx xs.length 0 lo = 0 ∧ HT.sIx xs.length xs.length hi = xs.length
  · exact getItem_tuple_whole ht hs pl pu (by rw [hlen]; exact hw) ⟨.ref a, H, I, rfl, q1 hw⟩
  · refine HT.getItem_tuple_cut ht hs pl pu (by rw [hlen]; exact hw) ?_ (by rw [hlen]; exact hz)
    rw [hlen]
    exact ⟨.ref s.heap.objs.size, _, Inv.layT (t' := s.toks) I (fun b u e => e) rfl ((r.drop (HT.sIx xs.length 0 lo)).take (HT.sIx xs.length xs.length hi - HT.sIx xs.length 0 lo)) (Nat.le_trans (cutV_length xs lo hi) hz), rfl, q2 hw _ _ (I.hok.fresh (Nat.le_refl _)) ⟨rfl, rfl⟩⟩
end
end DL
end

section
namespace DL
open PySem
/-- the data of a key; the pairs of a dict that stands still -/
def kD : Ky → D
  | .inl n => .int n
  | .inr s => .str s
def dkD (ks : List Ky) (ds : List D) : List (D × D) := List.zipWith (fun k d => (kD k, d)) ks ds
/-- a first key that tells that it is a dict -/
def oneI : List (D × D) → Bool
  | (.int _, _) :: _ => true
  | (.str _, .str _) :: _ => true
  | _ => false
def fnD (x : Str) : D := .dict [(.str x, .none)]
end DL
end

section
namespace DL
open PySem PySem.Spec PyProof.Rows L2

theorem sqt_same {K : PySem.W.Frag} {H H' : Hp} {a : Addr} {xs : List V} (e : Same H H') (h : SqT K H a xs) : SqT K H' a xs := by
  rcases h with (h | ⟨o, h⟩) | h
  · exact .inl (.inl (e _ _ h))
  · exact .inl (.inr ⟨o, e _ _ h⟩)
  · exact .inr h
/-- data in the heap; a dict stands here for the law's script, which is only ever cut -/
def scrD (ns : List Int) : D := .dict ((.none, .none) :: ns.map fun n => (.int n, .none))
mutual
inductive Dq (K : PySem.W.Frag) (H : Hp) : V → D → Prop
  | non : Dq K H .non .none
  | bl (b : Bool) : Dq K H (.bl b) (.bool b)
  | int (i : Int) : Dq K H (.int i) (.int i)
  | str (x : Str) : Dq K H (.str x) (.str x)
  | lst {a : Addr} {xs : List V} {ds : List D} : H a = some (.lst xs) → DqAll K H xs ds → Dq K H (.ref a) (.list ds)
  | tup {a : Addr} {xs : List V} {ds : List D} : TupAt H a xs → DqAll K H xs ds → Dq K H (.ref a) (.tuple ds)
  | scr {a : Addr} {ns : List Int} {d : D} : SqL K H a (ns.map V.int) → d = scrD ns → Dq K H (.ref a) d
  | dic {a : Addr} : H a = some (.dK []) → Dq K H (.ref a) (.dict [])
  | dii {a : Addr} {kvs : List (Ky × V)} {ds : List D} {l : List (D × D)} {d : D} : H a = some (.dK kvs) → DqAll K H (kvs.map (·.2)) ds → l = dkD (kvs.map (·.1)) ds → DL.oneI l = true → d = .dict l → Dq K H (.ref a) d
  | fn {a : Addr} {x : Str} {d : D} : PySem.W.nsIn K mainGlobals x = some (some (.ref a)) → d = fnD x → Dq K H (.ref a) d
inductive DqAll (K : PySem.W.Frag) (H : Hp) : List V → List D → Prop
  | nil : DqAll K H [] []
  | cons {v : V} {vs : List V} {d : D} {ds : List D} : Dq K H v d → DqAll K H vs ds → DqAll K H (v :: vs) (d :: ds)
end
mutual
theorem dp_same {K : PySem.W.Frag} {H H' : Hp} (e : Same H H') : ∀ {v : V} {d : D}, Dq K H v d → Dq K H' v d
  | _, _, .non => .non
  | _, _, .bl b => .bl b
  | _, _, .int i => .int i
  | _, _, .str x => .str x
  | _, _, .lst s a => .lst (e _ _ s) (dpa_same e a)
  | _, _, .scr s h => .scr (e.seq s) h
  | _, _, .fn s h => .fn s h
  | _, _, .dic s => .dic (e _ _ s)
  | _, _, .dii s h e1 e2 e3 => .dii (e _ _ s) (dpa_same e h) e1 e2 e3
  | _, _, .tup s a => .tup (tup_same e s) (dpa_same e a)
theorem dpa_same {K : PySem.W.Frag} {H H' : Hp} (e : Same H H') : ∀ {vs : List V} {ds : List D}, DqAll K H vs ds → DqAll K H' vs ds
  | _, _, .nil => .nil
  | _, _, .cons h t => .cons (dp_same e h) (dpa_same e t)
end
theorem DqAll.length {K : PySem.W.Frag} {H : Hp} : ∀ {vs : List V} {ds : List D}, DqAll K H vs ds → vs.length = ds.length
  | _, _, .nil => rfl
  | _, _, .cons _ t => by simp [DqAll.length t]
theorem DqAll.get {K : PySem.W.Frag} {H : Hp} : ∀ {vs : List V} {ds : List D} {i : Nat} {d : D}, DqAll K H vs ds → ds[i]? = some d → ∃ v, vs[i]? = some v ∧ Dq K H v d
  | _, _, _, _, .nil, e => by simp at e
  | _, _, 0, _, .cons h _, e => by simp at e; subst e; exact ⟨_, rfl, h⟩
  | _, _, i + 1, _, .cons _ t, e => by
    obtain ⟨v, h1, h2⟩ := DqAll.get (i := i) t (by simpa using e)
    exact ⟨v, by simpa using h1, h2⟩
theorem DqAll.append {K : PySem.W.Frag} {H : Hp} : ∀ {vs ws : List V} {ds es : List D}, DqAll K H vs ds → DqAll K H ws es → DqAll K H (vs ++ ws) (ds ++ es)
  | _, _, _, _, .nil, s => s
  | _, _, _, _, .cons h t, s => .cons h (DqAll.append t s)
theorem DqAll.take {K : PySem.W.Frag} {H : Hp} : ∀ {vs : List V} {ds : List D} (n : Nat), DqAll K H vs ds → DqAll K H (vs.take n) (ds.take n)
  | _, _, 0, _ => by simpa using DqAll.nil
  | _, _, _ + 1, .nil => .nil
  | _, _, n + 1, .cons h t => .cons h (DqAll.take n t)
theorem DqAll.drop {K : PySem.W.Frag} {H : Hp} : ∀ {vs : List V} {ds : List D} (n : Nat), DqAll K H vs ds → DqAll K H (vs.drop n) (ds.drop n)
  | _, _, 0, h => by simpa using h
  | _, _, _ + 1, .nil => .nil
  | _, _, n + 1, .cons _ t => DqAll.drop n t
theorem DqAll.set {K : PySem.W.Frag} {H : Hp} {v : V} {d : D} (r : Dq K H v d) : ∀ {vs : List V} {ds : List D} (i : Nat), DqAll K H vs ds → DqAll K H (vs.set i v) (ds.set i d)
  | _, _, _, .nil => .nil
  | _, _, 0, .cons _ t => .cons r t
  | _, _, i + 1, .cons h t => .cons h (DqAll.set r i t)
theorem DqAll.eraseIdx {K : PySem.W.Frag} {H : Hp} : ∀ {vs : List V} {ds : List D} (i : Nat), DqAll K H vs ds → DqAll K H (vs.eraseIdx i) (ds.eraseIdx i)
  | _, _, _, .nil => .nil
  | _, _, 0, .cons _ t => t
  | _, _, i + 1, .cons h t => .cons h (DqAll.eraseIdx i t)
theorem DqAll.reverse {K : PySem.W.Frag} {H : Hp} {vs : List V} {ds : List D} (h : DqAll K H vs ds) : DqAll K H vs.reverse ds.reverse := by
  induction vs generalizing ds with
  | nil => cases h; exact .nil
  | cons v vs ih =>
    cases h with
    | cons h t =>
      rw [List.reverse_cons, List.reverse_cons]
      exact DqAll.append (ih t) (.cons h .nil)
theorem dp_list {K : PySem.W.Frag} {H : Hp} {v : V} {ds : List D} (h : Dq K H v (.list ds)) : ∃ a xs, v = .ref a ∧ H a = some (.lst xs) ∧ DqAll K H xs ds := by
  cases h with
  | lst s a => exact ⟨_, _, rfl, s, a⟩
  | scr s h => cases h
  | fn s h => cases h
  | dii _ _ _ _ h => cases h
theorem dp_tuple {K : PySem.W.Frag} {H : Hp} {v : V} {ds : List D} (h : Dq K H v (.tuple ds)) : ∃ a xs, v = .ref a ∧ TupAt H a xs ∧ DqAll K H xs ds := by
  cases h with
  | tup s a => exact ⟨_, _, rfl, s, a⟩
  | scr s h => cases h
  | fn s h => cases h
  | dii _ _ _ _ h => cases h
mutual
theorem dq_dp {K : PySem.W.Frag} {H : Hp} : ∀ {v : V} {d : D}, Dq K H v d → d.canLay0 = true → Dp K H v d
  | _, _, .non, _ => .non
  | _, _, .bl b, _ => .bl b
  | _, _, .int i, _ => .int i
  | _, _, .str x, _ => .str x
  | _, _, .lst s a, h => .lst (.inl (.inl s)) (dqa_dpa a (by simpa [PyData.canLay0] using h))
  | _, _, .tup s a, h => .tup s.sq (dqa_dpa a (by simpa [PyData.canLay0] using h))
  | _, _, .scr s e, h => by subst e; simp [scrD, PyData.canLay0] at h
  | _, _, .fn s e, h => by subst e; simp [fnD, PyData.canLay0] at h
  | _, _, .dic s, h => by simp [PyData.canLay0] at h
  | _, _, .dii s _ _ _ e, h => by subst e; simp [PyData.canLay0] at h
theorem dqa_dpa {K : PySem.W.Frag} {H : Hp} : ∀ {vs : List V} {ds : List D}, DqAll K H vs ds → PyData.canLayAll0 ds = true → DpAll K H vs ds
  | _, _, .nil, _ => .nil
  | _, _, .cons a t, h => by
    simp only [PyData.canLayAll0, Bool.and_eq_true] at h
    exact .cons (dq_dp a h.1) (dqa_dpa t h.2)
end
theorem dp_int {K : PySem.W.Frag} {H : Hp} {v : V} {i : Int} (h : Dq K H v (.int i)) : v = .int i := by
  cases h with
  | int => rfl
  | scr s h => cases h
  | fn s h => cases h
  | dii _ _ _ _ h => cases h
theorem dp_bl {K : PySem.W.Frag} {H : Hp} {v : V} {i : Bool} (h : Dq K H v (.bool i)) : v = .bl i := by
  cases h with
  | bl => rfl
  | scr s h => cases h
  | fn s h => cases h
  | dii _ _ _ _ h => cases h
theorem dp_str {K : PySem.W.Frag} {H : Hp} {v : V} {i : Str} (h : Dq K H v (.str i)) : v = .str i := by
  cases h with
  | str => rfl
  | scr s h => cases h
  | fn s h => cases h
  | dii _ _ _ _ h => cases h
theorem dp_non {K : PySem.W.Frag} {H : Hp} {v : V} (h : Dq K H v .none) : v = .non := by
  cases h with
  | non => rfl
  | scr s h => cases h
  | fn s h => cases h
  | dii _ _ _ _ h => cases h

abbrev KvR (K : PySem.W.Frag) (B : Hp) {κ : Type} : List (κ × V) → List (κ × D) → Prop := Paired fun p q => p.1 = q.1 ∧ Dq K B p.2 q.2
theorem kvr_same {K : PySem.W.Frag} {B B' : Hp} (e : Same B B') {κ : Type} : ∀ {l : List (κ × V)} {m : List (κ × D)}, KvR K B l m → KvR K B' l m
  | _, _, .nil => .nil
  | _, _, .cons h t => .cons ⟨h.1, dp_same e h.2⟩ (kvr_same e t)
/-- the lists at as hold the rows -/
def RowsAt (K : PySem.W.Frag) (B H : Hp) : List Addr → List (List D) → Prop := Paired fun a ds => ∃ vs, H a = some (.lst vs) ∧ DqAll K B vs ds
theorem rowsAt_same {K : PySem.W.Frag} {B H B' H' : Hp} (e : Same B B') : ∀ {as : List Addr} {rows : List (List D)}, RowsAt K B H as rows → (∀ a ∈ as, H' a = H a) → RowsAt K B' H' as rows
  | _, _, .nil, _ => .nil
  | _, _, .cons h t, k => .cons (by obtain ⟨vs, h1, h2⟩ := h; exact ⟨vs, by rw [k _ List.mem_cons_self]; exact h1, dpa_same e h2⟩) (rowsAt_same e t fun a ha => k a (List.mem_cons_of_mem _ ha))
theorem rowsAt_some {K : PySem.W.Frag} {B H : Hp} : ∀ {as : List Addr} {rows : List (List D)}, RowsAt K B H as rows → ∀ a ∈ as, H a ≠ none
  | _, _, .nil, a, h => by cases h
  | _, _, .cons h t, a, ha => by
    rcases List.mem_cons.mp ha with rfl | ha
    · obtain ⟨vs, h1, _⟩ := h; rw [h1]; simp
    · exact rowsAt_some t a ha
/-- the entries of a dict of lists -/
def dlV (kvs : List (Ky × List D)) (as : List Addr) : List (Ky × V) := List.zipWith (fun kv a => (kv.1, V.ref a)) kvs as
theorem dlV_inj : ∀ {kvs : List (Ky × List D)} {as bs : List Addr}, as.length = kvs.length → bs.length = kvs.length → dlV kvs as = dlV kvs bs → as = bs
  | [], [], [], _, _, _ => rfl
  | [], _ :: _, _, h, _, _ => by simp at h
  | [], _, _ :: _, _, h, _ => by simp at h
  | _ :: _, [], _, h, _, _ => by simp at h
  | _ :: _, _, [], _, h, _ => by simp at h
  | kv :: kvs, a :: as, b :: bs, h1, h2, h => by
    simp only [dlV, List.zipWith_cons_cons, List.cons.injEq, Prod.mk.injEq, V.ref.injEq, true_and] at h
    rw [h.1, dlV_inj (kvs := kvs) (by simpa using h1) (by simpa using h2) h.2]
/-- the hash of a tuple of whole numbers; a dict with such keys; its entries as the slots' meanings -/
def tHash (ks : List Int) : Int := reduceHash (Builtin.Tuple.tupleHashOf (ks.map hashInt))
def DTob (l : Addr) (xs : List (List Int × Addr × Value)) (h : Heap) : Prop :=
  ∃ o es ep, h.get? l = some o ∧ o.ExactDict ∧ o.data = .dict es ep ∧ es.toList = xs.map fun x => (⟨tHash x.1, .ref x.2.1, x.2.2⟩ : DictEntry)
def DTo (l : Addr) (xs : List (List Int × Addr × Value)) : HO := .ext (DTob l xs)
def TkP (K : PySem.W.Frag) (B : Hp) : List (List Int × Addr × Value) → List (List Ky × D) → Prop :=
  Paired fun x kv => kv.1 = x.1.map Sum.inl ∧ TupAt B x.2.1 (x.1.map V.int) ∧ ∃ v, RelV v x.2.2 ∧ Dq K B v kv.2
def TkR (K : PySem.W.Frag) (B : Hp) (l : Addr) (xs : List (List Int × Addr × Value)) (kvs : List (List Ky × D)) : Prop :=
  (l == sysModules) = false ∧ xs.length ≤ sizeLine ∧ (xs.map (·.1)).Nodup ∧ TkP K B xs kvs
theorem tkp_same {K : PySem.W.Frag} {B B' : Hp} (e : Same B B') : ∀ {xs : List (List Int × Addr × Value)} {kvs : List (List Ky × D)}, TkP K B xs kvs → TkP K B' xs kvs
  | _, _, .nil => .nil
  | _, _, .cons h t => .cons (by obtain ⟨h1, h2, v, h3, h4⟩ := h; exact ⟨h1, tup_same e h2, v, h3, dp_same e h4⟩) (tkp_same e t)
theorem tkr_same {K : PySem.W.Frag} {B B' : Hp} (e : Same B B') {l : Addr} {xs : List (List Int × Addr × Value)} {kvs : List (List Ky × D)} (h : TkR K B l xs kvs) : TkR K B' l xs kvs := ⟨h.1, h.2.1, h.2.2.1, tkp_same e h.2.2.2⟩
/-- a dict of lists, of which some were taken out: the addresses of the others, the others themselves -/
def fr1 : V → Option (List D) → List Addr
  | .ref a, some _ => [a]
  | _, _ => []
def frA : List (Ky × V) → List (Ky × Option (List D)) → List Addr
  | e :: es, kv :: kvs => fr1 e.2 kv.2 ++ frA es kvs
  | _, _ => []
def DpR (K : PySem.W.Frag) (B H : Hp) : List (Ky × V) → List (Ky × Option (List D)) → Prop :=
  Paired fun e kv => e.1 = kv.1 ∧ ∀ ds, kv.2 = some ds → ∃ a vs, e.2 = .ref a ∧ H a = some (.lst vs) ∧ DqAll K B vs ds
theorem dpR_same {K : PySem.W.Frag} {B H B' H' : Hp} (e : Same B B') : ∀ {es : List (Ky × V)} {kvs : List (Ky × Option (List D))}, DpR K B H es kvs → (∀ a ∈ frA es kvs, H' a = H a) → DpR K B' H' es kvs
  | _, _, .nil, _ => .nil
  | _, _, .cons (a := x) (b := y) h t, k => .cons ⟨h.1, fun ds q => by
      obtain ⟨a, vs, h1, h2, h3⟩ := h.2 ds q
      refine ⟨a, vs, h1, ?_, dpa_same e h3⟩
      rw [k a (List.mem_append_left _ (by rw [h1, q]; exact List.mem_singleton_self _))]
      exact h2⟩ (dpR_same e t fun a ha => k a (List.mem_append_right _ ha))
theorem dpR_some {K : PySem.W.Frag} {B H : Hp} : ∀ {es : List (Ky × V)} {kvs : List (Ky × Option (List D))}, DpR K B H es kvs → ∀ a ∈ frA es kvs, H a ≠ none
  | _, _, .nil, a, h => by cases h
  | _, _, .cons (a := x) (b := y) h t, a, ha => by
    rcases List.mem_append.mp ha with ha | ha
    · cases q : y.2 with
      | none =>
        rw [q] at ha
        unfold fr1 at ha
        split at ha
        · contradiction
        · cases ha
      | some ds =>
        obtain ⟨b, vs, h1, h2, _⟩ := h.2 ds q
        rw [h1, q] at ha
        rw [List.mem_singleton.mp ha, h2]; simp
    · exact dpR_some t a ha
/-- an attribute's content, with the addresses that are owned by it -/
def FlR (K : PySem.W.Frag) (B H : Hp) : Fl → V → List Addr → Prop
  | .d x, v, F => F = [] ∧ Dq K B v x
  | .lst ds, v, F => ∃ a, v = .ref a ∧ F = [a] ∧ ∃ vs, H a = some (.lst vs) ∧ DqAll K B vs ds
  | .dK kvs, v, F => ∃ a, v = .ref a ∧ F = [a] ∧ ∃ vs, H a = some (.dK vs) ∧ KvR K B vs kvs
  | .ld rows, v, F => ∃ (a : Addr) (as : List Addr), v = .ref a ∧ F = a :: as ∧ H a = some (.lst (as.map V.ref)) ∧ Paired (fun a kvs => ∃ vs, H a = some (.dK vs) ∧ KvR K B vs kvs) as rows
inductive FlsR (K : PySem.W.Frag) (B H : Hp) : List Fl → List V → List Addr → Prop
  | nil : FlsR K B H [] [] []
  | cons {x : Fl} {xs : List Fl} {v : V} {vs : List V} {F F' : List Addr} : FlR K B H x v F → FlsR K B H xs vs F' → FlsR K B H (x :: xs) (v :: vs) (F ++ F')
theorem ref_inj : ∀ {as bs : List Addr}, as.map V.ref = bs.map V.ref → as = bs
  | [], [], _ => rfl
  | [], _ :: _, h => by cases h
  | _ :: _, [], h => by cases h
  | a :: as, b :: bs, h => by
    simp only [List.map_cons, List.cons.injEq, V.ref.injEq] at h
    rw [h.1, ref_inj h.2]
theorem flR_some {K : PySem.W.Frag} {B H : Hp} {x : Fl} {v : V} {F : List Addr} (h : FlR K B H x v F) : ∀ a ∈ F, H a ≠ none := by
  cases x with
  | d x => obtain ⟨rfl, _⟩ := h; intro a ha; cases ha
  | lst ds => obtain ⟨a, _, rfl, vs, e, _⟩ := h; intro b hb; rw [List.mem_singleton.mp hb, e]; simp
  | dK ds => obtain ⟨a, _, rfl, vs, e, _⟩ := h; intro b hb; rw [List.mem_singleton.mp hb, e]; simp
  | ld rows =>
    obtain ⟨a, as, _, rfl, e, p⟩ := h
    intro b hb
    rcases List.mem_cons.mp hb with rfl | hb
    · rw [e]; simp
    · induction p with
      | nil => cases hb
      | @cons x y l m h t ih =>
        rcases List.mem_cons.mp hb with rfl | hb
        · obtain ⟨vs, e, _⟩ := h; rw [e]; simp
        · have : ∀ {l : List Addr} {m : List (List (Ky × D))}, Paired (fun a kvs => ∃ vs, H a = some (.dK vs) ∧ KvR K B vs kvs) l m → ∀ b ∈ l, H b ≠ none := by
            intro l m p
            induction p with
            | nil => intro b hb; cases hb
            | cons h t ih =>
              intro b hb
              rcases List.mem_cons.mp hb with rfl | hb
              · obtain ⟨vs, e, _⟩ := h; rw [e]; simp
              · exact ih b hb
          exact this t b hb
theorem flR_same {K : PySem.W.Frag} {B H B' H' : Hp} {x : Fl} {v : V} {F : List Addr} (h : FlR K B H x v F) (e : Same B B') (k : ∀ a ∈ F, H' a = H a) : FlR K B' H' x v F := by
  cases x with
  | d x => exact ⟨h.1, dp_same e h.2⟩
  | lst ds => obtain ⟨a, h1, rfl, vs, e1, r⟩ := h; exact ⟨a, h1, rfl, vs, by rw [k a (by simp)]; exact e1, dpa_same e r⟩
  | dK ds => obtain ⟨a, h1, rfl, vs, e1, r⟩ := h; exact ⟨a, h1, rfl, vs, by rw [k a (by simp)]; exact e1, kvr_same e r⟩
  | ld rows =>
    obtain ⟨a, as, h1, rfl, e1, p⟩ := h
    refine ⟨a, as, h1, rfl, by rw [k a (by simp)]; exact e1, ?_⟩
    have : ∀ {l : List Addr} {m : List (List (Ky × D))}, Paired (fun a kvs => ∃ vs, H a = some (.dK vs) ∧ KvR K B vs kvs) l m → (∀ b ∈ l, H' b = H b) → Paired (fun a kvs => ∃ vs, H' a = some (.dK vs) ∧ KvR K B' vs kvs) l m := by
      intro l m p
      induction p with
      | nil => intro _; exact .nil
      | cons h t ih =>
        intro k
        obtain ⟨vs, e1, r⟩ := h
        exact .cons ⟨vs, by rw [k _ List.mem_cons_self]; exact e1, kvr_same e r⟩ (ih fun b hb => k b (List.mem_cons_of_mem _ hb))
    exact this p fun b hb => k b (List.mem_cons_of_mem _ hb)
theorem flR_uniq {K : PySem.W.Frag} {B H B' H' : Hp} {x : Fl} {v : V} {F F' : List Addr} (h : FlR K B H x v F) (h' : FlR K B' H' x v F') (k : ∀ a ∈ F, H' a = H a) : F' = F := by
  cases x with
  | d x => rw [h.1, h'.1]
  | lst ds => obtain ⟨a, rfl, rfl, _⟩ := h; obtain ⟨b, h1, rfl, _⟩ := h'; cases h1; rfl
  | dK ds => obtain ⟨a, rfl, rfl, _⟩ := h; obtain ⟨b, h1, rfl, _⟩ := h'; cases h1; rfl
  | ld rows =>
    obtain ⟨a, as, rfl, rfl, e1, _⟩ := h
    obtain ⟨b, bs, h1, rfl, e1', _⟩ := h'
    cases h1
    rw [k a (by simp), e1] at e1'
    rw [ref_inj (HO.lst.inj (Option.some.inj e1'))]
theorem flsR_some {K : PySem.W.Frag} {B H : Hp} {xs : List Fl} {vs : List V} {F : List Addr} (h : FlsR K B H xs vs F) : ∀ a ∈ F, H a ≠ none := by
  induction h with
  | nil => intro a ha; cases ha
  | cons h t ih =>
    intro a ha
    rcases List.mem_append.mp ha with ha | ha
    · exact flR_some h a ha
    · exact ih a ha
theorem flsR_same {K : PySem.W.Frag} {B H B' H' : Hp} {xs : List Fl} {vs : List V} {F : List Addr} (h : FlsR K B H xs vs F) (e : Same B B') : (∀ a ∈ F, H' a = H a) → FlsR K B' H' xs vs F := by
  induction h with
  | nil => intro _; exact .nil
  | cons h t ih =>
    intro k
    exact .cons (flR_same h e fun a ha => k a (List.mem_append_left _ ha)) (ih fun a ha => k a (List.mem_append_right _ ha))
theorem flsR_uniq {K : PySem.W.Frag} {B H B' H' : Hp} {xs : List Fl} {vs : List V} {F F' : List Addr} (h : FlsR K B H xs vs F) (h' : FlsR K B' H' xs vs F') : (∀ a ∈ F, H' a = H a) → F' = F := by
  induction h generalizing F' with
  | nil => intro _; cases h'; rfl
  | cons h t ih =>
    intro k
    cases h' with
    | cons g s =>
      rw [flR_uniq h g fun a ha => k a (List.mem_append_left _ ha), ih s fun a ha => k a (List.mem_append_right _ ha)]
/-- the object c stands at l; F: all addresses that are owned by it -/
def OwnR (K : PySem.W.Frag) (B H : Hp) : Ct → Addr → List Addr → Prop
  | .lst ds, l, F => F = [l] ∧ ∃ vs, H l = some (.lst vs) ∧ DqAll K B vs ds
  | .dK kvs, l, F => F = [l] ∧ ∃ vs, H l = some (.dK vs) ∧ KvR K B vs kvs
  | .dT kvs, l, F => F = [l] ∧ ∃ xs, H l = some (DTo l xs) ∧ TkR K B l xs kvs
  | .ll rows, l, F => ∃ as : List Addr, F = l :: as ∧ H l = some (.lst (as.map V.ref)) ∧ (l :: as).Nodup ∧ RowsAt K B H as rows
  | .dl kvs, l, F => ∃ as : List Addr, F = l :: as ∧ H l = some (.dK (dlV kvs as)) ∧ (l :: as).Nodup ∧ RowsAt K B H as (kvs.map (·.2))
  | .dp kvs, l, F => ∃ es : List (Ky × V), F = l :: frA es kvs ∧ H l = some (.dK es) ∧ (l :: frA es kvs).Nodup ∧ DpR K B H es kvs ∧ (kvs.map (·.1)).Nodup
  | .tl fs, l, F => ∃ (vs : List V) (as : List Addr), F = l :: as ∧ TupAt H l vs ∧ (l :: as).Nodup ∧ FlsR K B H fs vs as
  | .obj C fs, l, F => ∃ (Ca dx : Addr) (gs : List (Str × V)) (as : List Addr), F = l :: dx :: as ∧ PySem.W.nsIn K mainGlobals C = some (some (.ref Ca)) ∧ H l = some (.ins Ca dx gs) ∧ H dx = some (.own l) ∧
      (l :: dx :: as).Nodup ∧ gs.map (·.1) = fs.map (·.1) ∧ FlsR K B H (fs.map (·.2)) (gs.map (·.2)) as
  | .exn C n, l, F => F = [l] ∧ ∃ p : Addr × Addr, H l = some (exo l p.1 (some p.2)) ∧ PySem.W.nsIn K mainGlobals C = some (some (.ref p.1)) ∧ B p.2 = some (.xd [("row", .int n)])
  | .tab P q, l, F => F = [l] ∧ ∃ ps : Array Value, H l = some (.tbl ps) ∧ l = P ∧ TriplesOk ps.toList ∧ ∀ (pos : Pos) (cv : Value), codeAmong pos ps.toList = some cv → ∃ c, cv = .ref c ∧ B c = some (LamX.CodeO c q)
theorem rowsAt_len {K : PySem.W.Frag} {B H : Hp} {as : List Addr} {rows : List (List D)} (h : RowsAt K B H as rows) : as.length = rows.length := Paired.length h
theorem ownR_mem {K : PySem.W.Frag} {B H : Hp} {c : Ct} {l : Addr} {F : List Addr} (h : OwnR K B H c l F) : l ∈ F := by
  cases c with
  | ll rows => obtain ⟨as, rfl, _⟩ := h; simp
  | dl rows => obtain ⟨as, rfl, _⟩ := h; simp
  | dp rows => obtain ⟨as, rfl, _⟩ := h; simp
  | tl fs => obtain ⟨vs, as, rfl, _⟩ := h; simp
  | obj C fs => obtain ⟨Ca, dx, gs, as, rfl, _⟩ := h; simp
  | _ => (obtain ⟨rfl, _⟩ := h; simp)
theorem ownR_some {K : PySem.W.Frag} {B H : Hp} {c : Ct} {l : Addr} {F : List Addr} (h : OwnR K B H c l F) : ∀ a ∈ F, H a ≠ none := by
  cases c with
  | ll rows =>
    obtain ⟨as, rfl, e, _, r⟩ := h
    intro a ha
    rcases List.mem_cons.mp ha with rfl | ha
    · rw [e]; simp
    · exact rowsAt_some r a ha
  | dl rows =>
    obtain ⟨as, rfl, e, _, r⟩ := h
    intro a ha
    rcases List.mem_cons.mp ha with rfl | ha
    · rw [e]; simp
    · exact rowsAt_some r a ha
  | dp rows =>
    obtain ⟨es, rfl, e, _, r, _⟩ := h
    intro a ha
    rcases List.mem_cons.mp ha with rfl | ha
    · rw [e]; simp
    · exact dpR_some r a ha
  | tl fs =>
    obtain ⟨vs, as, rfl, e, _, r⟩ := h
    intro a ha
    rcases List.mem_cons.mp ha with rfl | ha
    · obtain ⟨o, _, e⟩ := e; rw [e]; simp
    · exact flsR_some r a ha
  | obj C fs =>
    obtain ⟨Ca, dx, gs, as, rfl, _, e, e2, _, _, r⟩ := h
    intro a ha
    rcases List.mem_cons.mp ha with rfl | ha
    · rw [e]; simp
    · rcases List.mem_cons.mp ha with rfl | ha
      · rw [e2]; simp
      · exact flsR_some r a ha
  | _ => (obtain ⟨rfl, vs, e, _⟩ := h; intro a ha; simp at ha; subst ha; rw [e]; simp)
theorem ownR_same {K : PySem.W.Frag} {B H B' H' : Hp} {c : Ct} {l : Addr} {F : List Addr} (h : OwnR K B H c l F) (e : Same B B') (k : ∀ a ∈ F, H' a = H a) : OwnR K B' H' c l F := by
  cases c with
  | lst ds => obtain ⟨rfl, vs, e1, r⟩ := h; exact ⟨rfl, vs, by rw [k l (by simp)]; exact e1, dpa_same e r⟩
  | dK ds => obtain ⟨rfl, vs, e1, r⟩ := h; exact ⟨rfl, vs, by rw [k l (by simp)]; exact e1, kvr_same e r⟩
  | dT ds => obtain ⟨rfl, vs, e1, r⟩ := h; exact ⟨rfl, vs, by rw [k l (by simp)]; exact e1, tkr_same e r⟩
  | ll rows => obtain ⟨as, rfl, e1, nd, r⟩ := h; exact ⟨as, rfl, by rw [k l (by simp)]; exact e1, nd, rowsAt_same e r fun a ha => k a (by simp [ha])⟩
  | dl rows => obtain ⟨as, rfl, e1, nd, r⟩ := h; exact ⟨as, rfl, by rw [k l (by simp)]; exact e1, nd, rowsAt_same e r fun a ha => k a (by simp [ha])⟩
  | dp ds => obtain ⟨es, rfl, e1, nd, r, z⟩ := h; exact ⟨es, rfl, by rw [k l (by simp)]; exact e1, nd, dpR_same e r fun a ha => k a (by simp [ha]), z⟩
  | tl fs =>
    obtain ⟨vs, as, rfl, ⟨o, t, e1⟩, nd, r⟩ := h
    exact ⟨vs, as, rfl, ⟨o, t, by rw [k l (by simp)]; exact e1⟩, nd, flsR_same r e fun a ha => k a (by simp [ha])⟩
  | obj C fs =>
    obtain ⟨Ca, dx, gs, as, rfl, h1, e1, e2, nd, hn, r⟩ := h
    exact ⟨Ca, dx, gs, as, rfl, h1, by rw [k l (by simp)]; exact e1, by rw [k dx (by simp)]; exact e2, nd, hn, flsR_same r e fun a ha => k a (by simp [ha])⟩
  | exn C n => obtain ⟨rfl, p, e1, h1, h2⟩ := h; exact ⟨rfl, p, by rw [k l (by simp)]; exact e1, h1, e _ _ h2⟩
  | tab P q => obtain ⟨rfl, ps, e1, h1, h2, h3⟩ := h; exact ⟨rfl, ps, by rw [k l (by simp)]; exact e1, h1, h2, fun pos cv g => by obtain ⟨c, g1, g2⟩ := h3 pos cv g; exact ⟨c, g1, e _ _ g2⟩⟩
theorem ownR_uniq {K : PySem.W.Frag} {B H B' H' : Hp} {c : Ct} {l : Addr} {F F' : List Addr} (h : OwnR K B H c l F) (h' : OwnR K B' H' c l F') (k : ∀ a ∈ F, H' a = H a) : F' = F := by
  cases c with
  | ll rows =>
    obtain ⟨as, rfl, e1, _⟩ := h
    obtain ⟨as', rfl, e1', _⟩ := h'
    rw [k l (by simp), e1] at e1'
    have := HO.lst.inj (Option.some.inj e1')
    rw [ref_inj this]
  | dl rows =>
    obtain ⟨as, rfl, e1, _, r⟩ := h
    obtain ⟨as', rfl, e1', _, r'⟩ := h'
    rw [k l (by simp), e1] at e1'
    have := HO.dK.inj (Option.some.inj e1')
    rw [dlV_inj (by simpa using rowsAt_len r) (by simpa using rowsAt_len r') this]
  | dp rows =>
    obtain ⟨es, rfl, e1, _⟩ := h
    obtain ⟨es', rfl, e1', _⟩ := h'
    rw [k l (by simp), e1] at e1'
    have := HO.dK.inj (Option.some.inj e1')
    rw [this]
  | tl fs =>
    obtain ⟨vs, as, rfl, ⟨o, _, e1⟩, _, r⟩ := h
    obtain ⟨vs', as', rfl, ⟨o', _, e1'⟩, _, r'⟩ := h'
    rw [k l (by simp), e1] at e1'
    have := HO.frz.inj (Option.some.inj e1')
    have hv := HO.tup.inj this.2
    subst hv
    rw [flsR_uniq r r' fun a ha => k a (by simp [ha])]
  | obj C fs =>
    obtain ⟨Ca, dx, gs, as, rfl, _, e1, _, _, _, r⟩ := h
    obtain ⟨Ca', dx', gs', as', rfl, _, e1', _, _, _, r'⟩ := h'
    rw [k l (by simp), e1] at e1'
    have := HO.ins.inj (Option.some.inj e1')
    obtain ⟨rfl, rfl, rfl⟩ := this
    rw [flsR_uniq r r' fun a ha => k a (by simp [ha])]
  | _ => (obtain ⟨rfl, _⟩ := h; obtain ⟨rfl, _⟩ := h'; rfl)

/-- the slots' meaning: B: what stands still; O: what is owned -/
structure Con0 (K : PySem.W.Frag) (B H : Hp) (σ : L2.St) (r : Ro) (O : Addr → Prop) : Prop where
  sub : Same B H
  off : ∀ a, O a → B a = none
  liv : ∀ a, O a → H a ≠ none
  len : r.length = σ.length
  frz : ∀ (i : Nat) b d, r[i]? = some (Sl.frz b d) → ∃ v, σ[i]? = some (some v) ∧ Dq K B v d
  own : ∀ (i : Nat) b c, r[i]? = some (Sl.own b c) → ∃ l F, σ[i]? = some (some (V.ref l)) ∧ OwnR K B H c l F ∧ ∀ a ∈ F, O a
  sep : ∀ (i j : Nat) b c b' c' l l' F F', i ≠ j → r[i]? = some (Sl.own b c) → r[j]? = some (Sl.own b' c') → σ[i]? = some (some (V.ref l)) → σ[j]? = some (some (V.ref l')) →
    OwnR K B H c l F → OwnR K B H c' l' F' → ∀ a ∈ F, a ∉ F'
/-- slots that look into a list of lists -/
def Al (H : Hp) (σ : L2.St) (r : Ro) : Prop := ∀ (i j k : Nat), r[i]? = some (Sl.al j k) → ∀ b rows l (as : List Addr), r[j]? = some (Sl.own b (.ll rows)) → σ[j]? = some (some (V.ref l)) → H l = some (.lst (as.map V.ref)) →
  ∃ a, as[k]? = some a ∧ σ[i]? = some (some (V.ref a))
structure Con (K : PySem.W.Frag) (B H : Hp) (σ : L2.St) (r : Ro) (O : Addr → Prop) : Prop extends Con0 K B H σ r O where
  al : Al H σ r
/-- from one state to a later one -/
structure Step (B H : Hp) (O : Addr → Prop) (B' H' : Hp) (O' : Addr → Prop) : Prop where
  sB : Same B B'
  keep : ∀ a o, H a = some o → ¬ O a → H' a = some o
  live : ∀ a, H a ≠ none → H' a ≠ none
  nB : ∀ a, H a ≠ none → ¬ O a → B a = none → B' a = none
  nO : ∀ a, O' a → O a ∨ H a = none
theorem Step.refl {B H : Hp} {O : Addr → Prop} : Step B H O B H O := ⟨Same.refl _, fun _ _ h _ => h, fun _ h => h, fun _ _ _ h => h, fun _ h => .inl h⟩
theorem Step.trans {B H B1 H1 B2 H2 : Hp} {O O1 O2 : Addr → Prop} (s : Step B H O B1 H1 O1) (t : Step B1 H1 O1 B2 H2 O2) : Step B H O B2 H2 O2 := by
  have no1 : ∀ a, H a ≠ none → ¬ O a → ¬ O1 a := fun a h n h1 => (s.nO a h1).elim n h
  refine ⟨s.sB.trans t.sB, fun a o h n => t.keep a o (s.keep a o h n) (no1 a (by rw [h]; simp) n), fun a h => t.live a (s.live a h), fun a h n b => t.nB a (s.live a h) (no1 a h n) (s.nB a h n b), fun a h => ?_⟩
  rcases t.nO a h with h | h
  · exact s.nO a h
  · by_cases q : H a = none
    · exact .inr q
    · exact absurd h (s.live a q)
/-- a lent parameter's slot stays -/
def pinned : Sl → Bool
  | .frz b _ => b
  | .own b _ => b
  | .non => false
  | .al _ _ => false
def Bor (r : Ro) (σ : L2.St) (r' : Ro) (σ' : L2.St) : Prop := ∀ (i : Nat) (x : Sl), r[i]? = some x → pinned x = true → (∃ y, r'[i]? = some y ∧ pinned y = true) ∧ σ'[i]? = σ[i]?
theorem Bor.refl {r : Ro} {σ : L2.St} : Bor r σ r σ := fun _ x h p => ⟨⟨x, h, p⟩, rfl⟩
theorem Bor.trans {r r1 r2 : Ro} {σ σ1 σ2 : L2.St} (a : Bor r σ r1 σ1) (b : Bor r1 σ1 r2 σ2) : Bor r σ r2 σ2 := fun i x h p => by
  obtain ⟨⟨y, h1, p1⟩, e1⟩ := a i x h p
  obtain ⟨z, e2⟩ := b i y h1 p1
  exact ⟨z, e2.trans e1⟩

section
variable {K : PySem.W.Frag} {B H B' H' : Hp} {σ : L2.St} {r : Ro} {O O' : Addr → Prop}
/-- nothing that is owned was touched -/
theorem Con0.mono (c : Con0 K B H σ r O) (sB : Same B B') (sH : Same B' H') (k : ∀ a, O a → H' a = H a) (off : ∀ a, O a → B' a = none) : Con0 K B' H' σ r O := by
  refine ⟨sH, off, fun a h => by rw [k a h]; exact c.liv a h, c.len, fun i b d e => ?_, fun i b ct e => ?_, fun i j b c1 b' c2 l l' F F' ne e1 e2 s1 s2 o1 o2 => ?_⟩
  · obtain ⟨v, h1, h2⟩ := c.frz i b d e
    exact ⟨v, h1, dp_same sB h2⟩
  · obtain ⟨l, F, h1, h2, h3⟩ := c.own i b ct e
    exact ⟨l, F, h1, ownR_same h2 sB fun a ha => k a (h3 a ha), h3⟩
  · obtain ⟨m, G, g1, g2, g3⟩ := c.own i b c1 e1
    obtain ⟨m', G', g1', g2', g3'⟩ := c.own j b' c2 e2
    rw [s1] at g1; cases g1
    rw [s2] at g1'; cases g1'
    rw [ownR_uniq g2 o1 fun a ha => k a (g3 a ha), ownR_uniq g2' o2 fun a ha => k a (g3' a ha)]
    exact c.sep i j b c1 b' c2 _ _ _ _ ne e1 e2 s1 s2 g2 g2'
theorem Con.mono (c : Con K B H σ r O) (sB : Same B B') (sH : Same B' H') (k : ∀ a, O a → H' a = H a) (off : ∀ a, O a → B' a = none) : Con K B' H' σ r O :=
  ⟨c.toCon0.mono sB sH k off, fun i j kk h b rows l as h1 h2 h3 => by
    obtain ⟨l0, F, g1, g2, g3⟩ := c.own j b _ h1
    rw [h2] at g1; cases g1
    rw [k _ (g3 _ (ownR_mem g2))] at h3
    exact c.al i j kk h b rows _ as h1 h2 h3⟩
/-- a value's result in the heap; H: the heap at the start -/
def RvR (K : PySem.W.Frag) (H B' H' : Hp) (O' : Addr → Prop) : RV → V → Prop
  | .val d, v => Dq K B' v d
  | .new c, v => ∃ l F, v = .ref l ∧ OwnR K B' H' c l F ∧ ∀ a ∈ F, H a = none ∧ B' a = none ∧ ¬ O' a
def AvR (K : PySem.W.Frag) (B' : Hp) (σ : L2.St) : AV → V → Prop
  | .val d, v => Dq K B' v d
  | .slot i, v => σ[i]? = some (some v)
theorem AvR.same {a : AV} {v : V} (e : Same B B') (h : AvR K B σ a v) : AvR K B' σ a v := by
  cases a with
  | val d => exact dp_same e h
  | slot i => exact h
/-- an operand looked at, in the heap -/
def RsR (K : PySem.W.Frag) (B H : Hp) : Rs → V → Prop
  | .fz d, v => Dq K B v d
  | .ow c, v => ∃ l F, v = .ref l ∧ OwnR K B H c l F
theorem paired_at {α β : Type} {F : α → β → Prop} : ∀ {l : List α} {m : List β} {k : Nat} {y : β}, Paired F l m → m[k]? = some y → ∃ x, l[k]? = some x ∧ F x y
  | _, _, _, _, .nil, e => by simp at e
  | _, _, 0, x, .cons h t, e => by simp at e; subst e; exact ⟨_, rfl, h⟩
  | _, _, k + 1, x, .cons h t, e => by
    obtain ⟨y, h1, h2⟩ := paired_at (k := k) t (by simpa using e)
    exact ⟨y, by simpa using h1, h2⟩
theorem Con.look2_ (c : Con K B H σ r O) {a : AV} {x : Rs} {v : V} (h : look2 r a = some x) (e : AvR K B σ a v) : RsR K B H x v := by
  cases a with
  | val d => cases h; exact e
  | slot i =>
    simp only [DL.look2] at h
    split at h
    · rename_i b d q
      cases h
      obtain ⟨v', h1, h2⟩ := c.frz i b d q
      rw [show σ[i]? = some (some v) from e] at h1; cases h1
      exact h2
    · rename_i b ct q
      cases h
      obtain ⟨l, F, h1, h2, h3⟩ := c.own i b ct q
      rw [show σ[i]? = some (some v) from e] at h1; cases h1
      exact ⟨l, F, rfl, h2⟩
    · rename_i j k q
      split at h
      · rename_i b rows q2
        cases q3 : rows[k]? with
        | none => rw [q3] at h; cases h
        | some ds =>
          rw [q3] at h
          cases h
          obtain ⟨l, F, h1, ⟨as, rfl, h2, nd, ra⟩, h3⟩ := c.own j b _ q2
          obtain ⟨a, g1, g2⟩ := c.al i j k q b rows l as q2 h1 h2
          rw [show σ[i]? = some (some v) from e] at g2; cases g2
          obtain ⟨a', g3, vs, g4, g5⟩ := paired_at ra q3
          rw [g1] at g3; cases g3
          exact ⟨_, _, rfl, rfl, vs, g4, g5⟩
      · cases h
    · cases h
theorem Con.looks2_ (c : Con K B H σ r O) : ∀ {as : List AV} {xs : List Rs} {vs : List V}, looks2 r as = some xs → Paired (AvR K B σ) as vs → Paired (RsR K B H) xs vs
  | [], xs, vs, h, e => by
    cases h; cases e; exact .nil
  | a :: as, xs, vs, h, e => by
    cases e with
    | cons e1 e2 =>
      simp only [DL.looks2] at h
      split at h
      · rename_i x ys h1 h2
        cases h
        exact .cons (c.look2_ h1 e1) (Con.looks2_ c h2 e2)
      · cases h
theorem Con.look (c : Con K B H σ r O) {a : AV} {x : Rs} {v : V} (h : look r a = some x) (e : AvR K B σ a v) : RsR K B H x v := by
  cases a with
  | val d => cases h; exact e
  | slot i =>
    simp only [DL.look] at h
    split at h
    · rename_i b d q
      cases h
      obtain ⟨v', h1, h2⟩ := c.frz i b d q
      rw [show σ[i]? = some (some v) from e] at h1; cases h1
      exact h2
    · rename_i b ct q
      cases h
      obtain ⟨l, F, h1, h2, h3⟩ := c.own i b ct q
      rw [show σ[i]? = some (some v) from e] at h1; cases h1
      exact ⟨l, F, rfl, h2⟩
    · cases h
theorem Con.looks (c : Con K B H σ r O) : ∀ {as : List AV} {xs : List Rs} {vs : List V}, looks r as = some xs → Paired (AvR K B σ) as vs → Paired (RsR K B H) xs vs
  | [], xs, vs, h, e => by
    cases h; cases e; exact .nil
  | a :: as, xs, vs, h, e => by
    cases e with
    | cons e1 e2 =>
      simp only [DL.looks] at h
      split at h
      · rename_i x ys h1 h2
        cases h
        exact .cons (c.look h1 e1) (Con.looks c h2 e2)
      · cases h
/-- what an operation lays -/
def Alc (K : PySem.W.Frag) (B H H' : Hp) : RV → V → Prop
  | .val d, v => (H' = H ∧ Dq K B v d) ∨ (∃ p vs ds o, H p = none ∧ TP o ∧ H' = upd H p (.frz o (.tup vs)) ∧ d = .tuple ds ∧ DqAll K B vs ds ∧ v = .ref p)
  | .new (.lst ds), v => ∃ p vs, H p = none ∧ H' = upd H p (.lst vs) ∧ DqAll K B vs ds ∧ v = .ref p
  | .new (.dK kvs), v => ∃ p vs, H p = none ∧ H' = upd H p (.dK vs) ∧ KvR K B vs kvs ∧ v = .ref p
  | .new (.dT kvs), v => ∃ p xs, H p = none ∧ H' = upd H p (DTo p xs) ∧ TkR K B p xs kvs ∧ v = .ref p
  | .new (.ll _), _ => False
  | .new (.dl _), _ => False
  | .new (.dp _), _ => False
  | .new (.tl _), _ => False
  | .new (.obj _ _), _ => False
  | .new (.exn _ _), _ => False
  | .new (.tab _ _), _ => False
theorem same_new {p : Addr} {o : HO} (h : H p = none) : Same H (upd H p o) := fun b x e => by
  rw [upd_ne (ne_of_none e h)]; exact e
theorem Con.lay (c : Con K B H σ r O) {p : Addr} {o : HO} (hp : H p = none) : B p = none ∧ ¬ O p ∧ Con K B (upd H p o) σ r O ∧ Step B H O B (upd H p o) O := by
  have bp : B p = none := c.sub.free hp
  have np : ¬ O p := fun h => c.liv p h hp
  refine ⟨bp, np, c.mono (Same.refl _) (c.sub.trans (same_new hp)) (fun a h => ?_) c.off, ⟨Same.refl _, fun a o h _ => same_new hp _ _ h, fun a h => ?_, fun a _ _ h => h, fun a h => .inl h⟩⟩
  · rw [upd_ne (show a ≠ p from fun e => np (by rw [← e]; exact h))]
  · by_cases e : a = p
    · subst e; exact absurd hp h
    · rw [upd_ne e]; exact h
/-- a new object that stands still -/
theorem Con.layF (c : Con K B H σ r O) {p : Addr} {o : HO} (hp : H p = none) : Con K (upd B p o) (upd H p o) σ r O ∧ Step B H O (upd B p o) (upd H p o) O := by
  obtain ⟨bp, np, c1, s1⟩ := c.lay (o := o) hp
  have off : ∀ a, O a → upd B p o a = none := fun a h => by
    rw [upd_ne (show a ≠ p from fun e => np (by rw [← e]; exact h))]; exact c.off a h
  refine ⟨c1.mono (same_new bp) (fun a x h => ?_) (fun _ _ => rfl) off, ⟨same_new bp, s1.keep, s1.live, fun a h1 h2 h3 => ?_, s1.nO⟩⟩
  · by_cases e : a = p
    · subst e; rw [upd_same] at h ⊢; exact h
    · rw [upd_ne e] at h ⊢; exact c.sub a x h
  · rw [upd_ne (show a ≠ p from fun e => h1 (by rw [e]; exact hp))]; exact h3
theorem Con.alc (c : Con K B H σ r O) {x : RV} {v : V} (h : Alc K B H H' x v) : ∃ B', Step B H O B' H' O ∧ Con K B' H' σ r O ∧ RvR K H B' H' O x v := by
  cases x with
  | val d =>
    rcases h with ⟨rfl, h⟩ | ⟨p, vs, ds, o, hp, ht, rfl, rfl, h, rfl⟩
    · exact ⟨B, .refl, c, h⟩
    · obtain ⟨c1, s1⟩ := c.layF (o := .frz o (.tup vs)) hp
      exact ⟨_, s1, c1, .tup (tupAt_new ht) (dpa_same s1.sB h)⟩
  | new ct =>
    cases ct with
    | lst ds =>
      obtain ⟨p, vs, hp, rfl, h, rfl⟩ := h
      obtain ⟨bp, np, c1, s1⟩ := c.lay (o := .lst vs) hp
      exact ⟨B, s1, c1, p, [p], rfl, ⟨rfl, vs, upd_same, h⟩, fun a ha => by simp at ha; subst ha; exact ⟨hp, bp, np⟩⟩
    | dK kvs =>
      obtain ⟨p, vs, hp, rfl, h, rfl⟩ := h
      obtain ⟨bp, np, c1, s1⟩ := c.lay (o := .dK vs) hp
      exact ⟨B, s1, c1, p, [p], rfl, ⟨rfl, vs, upd_same, h⟩, fun a ha => by simp at ha; subst ha; exact ⟨hp, bp, np⟩⟩
    | dT kvs =>
      obtain ⟨p, vs, hp, rfl, h, rfl⟩ := h
      obtain ⟨bp, np, c1, s1⟩ := c.lay (o := DTo p vs) hp
      exact ⟨B, s1, c1, p, [p], rfl, ⟨rfl, vs, upd_same, h⟩, fun a ha => by simp at ha; subst ha; exact ⟨hp, bp, np⟩⟩
    | ll rows => exact h.elim
    | dl rows => exact h.elim
    | dp rows => exact h.elim
    | tl _ => exact h.elim
    | obj _ _ => exact h.elim
    | exn _ _ => exact h.elim
    | tab _ _ => exact h.elim
/-- an unowned list stands still from now on -/
theorem Con.still (c : Con K B H σ r O) {p : Addr} {o : HO} (hp : H p = some o) (bp : B p = none) (np : ¬ O p) : Con K (upd B p o) H σ r O := by
  refine c.mono (same_new bp) (fun a x h => ?_) (fun _ _ => rfl) fun a h => by rw [upd_ne (show a ≠ p from fun e => np (by rw [← e]; exact h))]; exact c.off a h
  by_cases e : a = p
  · subst e; rw [upd_same] at h; cases h; exact hp
  · rw [upd_ne e] at h; exact c.sub a x h
/-- a new result stands still from now on: its data -/
theorem Con.frozen (c : Con K B' H' σ r O') {x : RV} {d : D} {v : V} (s : Step B H O B' H' O') (h : RvR K H B' H' O' x v) (e : x.data = some d) : ∃ B2, Step B H O B2 H' O' ∧ Con K B2 H' σ r O' ∧ Dq K B2 v d ∧ Same B' B2 := by
  cases x with
  | val d' => cases e; exact ⟨B', s, c, h, Same.refl _⟩
  | new ct =>
    cases ct with
    | lst ds =>
      cases e
      obtain ⟨l, F, rfl, ⟨rfl, vs, e1, h1⟩, h2⟩ := h
      obtain ⟨n1, n2, n3⟩ := h2 l (by simp)
      have c2 := c.still e1 n2 n3
      refine ⟨_, ⟨s.sB.trans (same_new n2), s.keep, s.live, fun a q1 q2 q3 => ?_, s.nO⟩, c2, .lst upd_same (dpa_same (same_new n2) h1), same_new n2⟩
      rw [upd_ne (show a ≠ l from fun e => q1 (by rw [e]; exact n1))]
      exact s.nB a q1 q2 q3
    | dK _ => cases e
    | dT _ => cases e
    | ll _ => cases e
    | dl _ => cases e
    | dp _ => cases e
    | tl _ => cases e
    | obj _ _ => cases e
    | exn _ _ => cases e
    | tab _ _ => cases e
end

/-- how an exception lies: its class -/
def XnR (K : PySem.W.Frag) (mg : Str → Option Value) (x : Exn) (cls : Value) (dx : Option Addr) (H0 B H : Hp) (O : Addr → Prop) : Prop :=
  ∃ C, mg (Str.ofString x.cls) = some (.ref C) ∧ cls = .ref C ∧ match x.row with
    | none => dx = none
    | some n => ∃ d, dx = some d ∧ H d = some (.xd [("row", .int n)]) ∧ H0 d = none ∧ B d = none ∧ ¬ O d
theorem XnR.later {K : PySem.W.Frag} {mg : Str → Option Value} {x : Exn} {cls : Value} {dx : Option Addr} {H0 H1 B H : Hp} {O : Addr → Prop} (k : ∀ p, H0 p ≠ none → H1 p ≠ none) (h : XnR K mg x cls dx H1 B H O) : XnR K mg x cls dx H0 B H O := by
  obtain ⟨C, h1, h2, h3⟩ := h
  refine ⟨C, h1, h2, ?_⟩
  cases q : x.row with
  | none => rw [q] at h3; exact h3
  | some n =>
    rw [q] at h3
    obtain ⟨d, e1, e2, e3, e4⟩ := h3
    refine ⟨d, e1, e2, ?_, e4⟩
    by_cases z : H0 d = none
    · exact z
    · exact absurd e3 (k d z)
theorem XnR.out {K : PySem.W.Frag} {mg : Str → Option Value} {x : Exn} {cls : Value} {dx : Option Addr} {H0 B H : Hp} {O O1 O2 : Addr → Prop} (h : XnR K mg x cls dx H0 B H O) (ho : ∀ a, O2 a → O1 a ∨ O a) (liv : ∀ a, O1 a → H0 a ≠ none) : XnR K mg x cls dx H0 B H O2 := by
  obtain ⟨C, h1, h2, h3⟩ := h
  refine ⟨C, h1, h2, ?_⟩
  cases q : x.row with
  | none => rw [q] at h3; exact h3
  | some n =>
    rw [q] at h3
    obtain ⟨d, e1, e2, e3, e4, e5⟩ := h3
    exact ⟨d, e1, e2, e3, e4, fun z => (ho d z).elim (fun y => liv d y e3) e5⟩
/-- where meanings are read: the written part, the module's names, what is wanted of an exception -/
structure Ct2 where
  K : PySem.W.Frag
  mg : Str → Option Value
abbrev Rl (α β : Type) := Hp → Hp → Hp → (Addr → Prop) → L2.St → α → β → Prop
/-- m from the state (B, r, O), with an end -/
def At {α β : Type} (G : Ct2) (W : WX) (m : M α) (R : Rl α β) (B : Hp) (r : Ro) (O : Addr → Prop) (σ : L2.St) (H : Hp) (Q : β → Hp → Prop) : Prop :=
  Con G.K B H σ r O ∧ ∃ o r', m r = some (o, r') ∧ match o with
    | .ok a => ∀ B' H' O' y, Step B H O B' H' O' → Con G.K B' H' σ r' O' → Bor r σ r' σ → R H B' H' O' σ a y → Q y H'
    | .exc x => ∀ B' H' O' c dx, Step B H O B' H' O' → Con G.K B' H' σ r' O' → Bor r σ r' σ → XnR G.K G.mg x c dx H B' H' O' → W c dx σ H'
def tG {α β : Type} (G : Ct2) (W : WX) (m : M α) (R : Rl α β) (σ : L2.St) (H : Hp) (Q : β → Hp → Prop) : Prop := ∃ B r O, At G W m R B r O σ H Q
/-- a later start does -/
def Later {α β : Type} (R : Rl α β) : Prop := ∀ H H1 B' H' O' σ a y, (∀ p, H p ≠ none → H1 p ≠ none) → R H1 B' H' O' σ a y → R H B' H' O' σ a y
def rV (G : Ct2) : Rl RV V := fun H B' H' O' _ x v => RvR G.K H B' H' O' x v
def rA (G : Ct2) : Rl AV V := fun _ B' _ _ σ a v => AvR G.K B' σ a v
def rL (G : Ct2) : Rl (List AV) (List V) := fun _ B' _ _ σ as vs => Paired (AvR G.K B' σ) as vs
def rB : Rl Bool Bool := fun _ _ _ _ _ a b => a = b
theorem later_rV {G : Ct2} : Later (rV G) := fun H H1 B' H' O' σ a y k h => by
  cases a with
  | val d => exact h
  | new c =>
    obtain ⟨l, F, e, o, h⟩ := h
    refine ⟨l, F, e, o, fun a ha => ⟨?_, (h a ha).2⟩⟩
    by_cases q : H a = none
    · exact q
    · exact absurd (h a ha).1 (k a q)
theorem later_rL {G : Ct2} : Later (rL G) := fun _ _ _ _ _ _ _ _ _ h => h
theorem later_rB : Later rB := fun _ _ _ _ _ _ _ _ _ h => h
section
variable {G : Ct2} {W : WX} {α β γ δ : Type} {m : M α} {f : α → M γ} {R : Rl α β} {R2 : Rl γ δ} {B : Hp} {r : Ro} {O : Addr → Prop} {σ : L2.St} {H : Hp}
theorem At.mono {Q Q' : β → Hp → Prop} (h : At G W m R B r O σ H Q) (q : ∀ y H', Q y H' → Q' y H') : At G W m R B r O σ H Q' := by
  obtain ⟨c, o, r', e, p⟩ := h
  refine ⟨c, o, r', e, ?_⟩
  cases o with
  | ok a => exact fun B' H' O' y s c b x => q _ _ (p B' H' O' y s c b x)
  | exc x => exact p
theorem tG.of {Q : β → Hp → Prop} (h : At G W m R B r O σ H Q) : tG G W m R σ H Q := ⟨B, r, O, h⟩
/-- the first of two -/
theorem At.bind {Q : δ → Hp → Prop} (h : At G W (m.bind f) R2 B r O σ H Q) (hl : Later R2) :
    At G W m R B r O σ H fun y H1 => ∃ a B1 r1 O1, Step B H O B1 H1 O1 ∧ R H B1 H1 O1 σ a y ∧ At G W (f a) R2 B1 r1 O1 σ H1 Q := by
  obtain ⟨c, o, r', e, p⟩ := h
  refine ⟨c, ?_⟩
  unfold M.bind at e
  cases q : m r with
  | none => rw [q] at e; cases e
  | some z =>
    obtain ⟨o1, r1⟩ := z
    rw [q] at e
    refine ⟨o1, r1, rfl, ?_⟩
    cases o1 with
    | exc x =>
      cases e
      exact p
    | ok a =>
      intro B1 H1 O1 y s1 c1 b1 x1
      refine ⟨a, B1, r1, O1, s1, x1, c1, o, r', e, ?_⟩
      cases o with
      | ok a2 => exact fun B2 H2 O2 y2 s2 c2 b2 x2 => p B2 H2 O2 y2 (s1.trans s2) c2 (b1.trans b2) (hl H H1 _ _ _ _ _ _ s1.live x2)
      | exc x => exact fun B2 H2 O2 c2 dx s2 k2 b2 x2 => p B2 H2 O2 c2 dx (s1.trans s2) k2 (b1.trans b2) (x2.later s1.live)
theorem At.ret {a : α} {Q : β → Hp → Prop} (h : At G W (M.ret a) R B r O σ H Q) {y : β} (x : R H B H O σ a y) : Q y H := by
  obtain ⟨c, o, r', e, p⟩ := h
  cases e
  exact p B H O y .refl c .refl x
end
end DL
end

section
namespace DL
open PySem PySem.Spec PyProof.Rows L2

theorem get_set {α : Type} {l : List α} {i j : Nat} {x y : α} (h : (l.set i x)[j]? = some y) : (j = i ∧ y = x) ∨ (j ≠ i ∧ l[j]? = some y) := by
  by_cases e : j = i
  · subst e
    by_cases hl : j < l.length
    · rw [List.getElem?_set_self hl] at h; cases h; exact .inl ⟨rfl, rfl⟩
    · rw [List.getElem?_eq_none (by rw [List.length_set]; omega)] at h; cases h
  · rw [List.getElem?_set_ne (Ne.symm e)] at h; exact .inr ⟨e, h⟩

section
variable {K : PySem.W.Frag} {B H B' H' : Hp} {σ σ' : L2.St} {r : Ro} {O O' : Addr → Prop}
/-- slot i is told anew -/
theorem Con0.replace (c : Con0 K B H σ r O) {i : Nat} {x : Sl} (hl : σ'.length = σ.length) (hs : ∀ j, j ≠ i → σ'[j]? = σ[j]?)
    (hx : match x with
      | .non => True
      | .al _ _ => True
      | .frz _ d => ∃ v, σ'[i]? = some (some v) ∧ Dq K B v d
      | .own _ ct => ∃ l F, σ'[i]? = some (some (V.ref l)) ∧ OwnR K B H ct l F ∧ (∀ a ∈ F, O a) ∧ ∀ (j : Nat) b' c' l' F', j ≠ i → r[j]? = some (Sl.own b' c') → σ[j]? = some (some (V.ref l')) → OwnR K B H c' l' F' → ∀ a ∈ F, a ∉ F') :
    Con0 K B H σ' (r.set i x) O := by
  refine ⟨c.sub, c.off, c.liv, by rw [List.length_set, c.len, hl], fun j b d e => ?_, fun j b ct e => ?_, fun j k b c1 b' c2 l l' F F' ne e1 e2 s1 s2 o1 o2 => ?_⟩
  · rcases get_set e with ⟨rfl, rfl⟩ | ⟨n, e⟩
    · exact hx
    · rw [hs j n]; exact c.frz j b d e
  · rcases get_set e with ⟨rfl, rfl⟩ | ⟨n, e⟩
    · obtain ⟨l, F, h1, h2, h3, _⟩ := hx
      exact ⟨l, F, h1, h2, h3⟩
    · rw [hs j n]; exact c.own j b ct e
  · rcases get_set e1 with ⟨rfl, rfl⟩ | ⟨n1, f1⟩
    · rcases get_set e2 with ⟨rfl, _⟩ | ⟨n2, f2⟩
      · exact absurd rfl ne
      · obtain ⟨m, G, g1, g2, g3, g4⟩ := hx
        rw [s1] at g1; cases g1
        rw [hs k n2] at s2
        rw [ownR_uniq g2 o1 fun a _ => rfl]
        exact g4 k b' c2 l' F' n2 f2 s2 o2
    · rcases get_set e2 with ⟨rfl, rfl⟩ | ⟨n2, f2⟩
      · obtain ⟨m, G, g1, g2, g3, g4⟩ := hx
        rw [s2] at g1; cases g1
        rw [hs j n1] at s1
        rw [ownR_uniq g2 o2 fun a _ => rfl]
        exact fun a ha hb => g4 j b c1 l F n1 f1 s1 o1 a hb ha
      · rw [hs j n1] at s1
        rw [hs k n2] at s2
        exact c.sep j k b c1 b' c2 l l' F F' ne f1 f2 s1 s2 o1 o2
theorem noAl_of {r : Ro} {i i2 k : Nat} (h : noAl r i = true) : r[i2]? ≠ some (Sl.al i k) := fun e => by
  have := List.all_eq_true.mp h _ (List.mem_of_getElem? e)
  simp at this
theorem Con.replace (c : Con K B H σ r O) {i : Nat} {x : Sl} (hl : σ'.length = σ.length) (hs : ∀ j, j ≠ i → σ'[j]? = σ[j]?)
    (hx : match x with
      | .non => True
      | .al _ _ => False
      | .frz _ d => ∃ v, σ'[i]? = some (some v) ∧ Dq K B v d
      | .own _ ct => ∃ l F, σ'[i]? = some (some (V.ref l)) ∧ OwnR K B H ct l F ∧ (∀ a ∈ F, O a) ∧ ∀ (j : Nat) b' c' l' F', j ≠ i → r[j]? = some (Sl.own b' c') → σ[j]? = some (some (V.ref l')) → OwnR K B H c' l' F' → ∀ a ∈ F, a ∉ F')
    (hal : ∀ b rows, x = .own b (.ll rows) → noAl r i = true) : Con K B H σ' (r.set i x) O := by
  refine ⟨c.toCon0.replace hl hs (by cases x <;> first | exact hx | trivial), fun i2 j k h b rows l as h1 h2 h3 => ?_⟩
  rcases get_set h with ⟨rfl, z⟩ | ⟨n, g⟩
  · subst z; exact hx.elim
  · rw [hs i2 n]
    rcases get_set h1 with ⟨rfl, z⟩ | ⟨n1, g1⟩
    · exact absurd g (noAl_of (hal b rows z.symm))
    · rw [hs j n1] at h2
      exact c.al i2 j k g b rows l as g1 h2 h3
theorem Con.forget (c : Con K B H σ r O) (i : Nat) : Con K B H σ (r.set i .non) O := c.replace (x := .non) rfl (fun _ _ => rfl) trivial (fun _ _ e => by cases e)
/-- fewer addresses are owned -/
theorem Con.shrink (c : Con K B H σ r O) (hO : ∀ a, O' a → O a) (hF : ∀ (i : Nat) b ct l F, r[i]? = some (Sl.own b ct) → σ[i]? = some (some (V.ref l)) → OwnR K B H ct l F → ∀ a ∈ F, O' a) : Con K B H σ r O' :=
  ⟨⟨c.sub, fun a h => c.off a (hO a h), fun a h => c.liv a (hO a h), c.len, c.frz, fun i b ct e => by
    obtain ⟨l, F, h1, h2, h3⟩ := c.own i b ct e
    exact ⟨l, F, h1, h2, hF i b ct l F e h1 h2⟩, c.sep⟩, c.al⟩
/-- more addresses are owned -/
theorem Con.grow (c : Con K B H σ r O) {F : List Addr} (hF : ∀ a ∈ F, B a = none ∧ H a ≠ none) : Con K B H σ r (fun a => O a ∨ a ∈ F) :=
  ⟨⟨c.sub, fun a h => h.elim (c.off a) fun h => (hF a h).1, fun a h => h.elim (c.liv a) fun h => (hF a h).2, c.len, c.frz, fun i b ct e => by
    obtain ⟨l, F, h1, h2, h3⟩ := c.own i b ct e
    exact ⟨l, F, h1, h2, fun a ha => .inl (h3 a ha)⟩, c.sep⟩, c.al⟩
theorem Con0.shrink0 (c : Con0 K B H σ r O) (hO : ∀ a, O' a → O a) (hF : ∀ (i : Nat) b ct l F, r[i]? = some (Sl.own b ct) → σ[i]? = some (some (V.ref l)) → OwnR K B H ct l F → ∀ a ∈ F, O' a) : Con0 K B H σ r O' :=
  ⟨c.sub, fun a h => c.off a (hO a h), fun a h => c.liv a (hO a h), c.len, c.frz, fun i b ct e => by
    obtain ⟨l, F, h1, h2, h3⟩ := c.own i b ct e
    exact ⟨l, F, h1, h2, hF i b ct l F e h1 h2⟩, c.sep⟩
theorem Con0.grow0 (c : Con0 K B H σ r O) {F : List Addr} (hF : ∀ a ∈ F, B a = none ∧ H a ≠ none) : Con0 K B H σ r (fun a => O a ∨ a ∈ F) :=
  ⟨c.sub, fun a h => h.elim (c.off a) fun h => (hF a h).1, fun a h => h.elim (c.liv a) fun h => (hF a h).2, c.len, c.frz, fun i b ct e => by
    obtain ⟨l, F, h1, h2, h3⟩ := c.own i b ct e
    exact ⟨l, F, h1, h2, fun a ha => .inl (h3 a ha)⟩, c.sep⟩
/-- slot i is let go: its addresses are no longer owned -/
theorem Con.release (c : Con K B H σ r O) {i : Nat} {b : Bool} {ct : Ct} {l : Addr} {F : List Addr} (e : r[i]? = some (Sl.own b ct)) (hs : σ[i]? = some (some (V.ref l))) (o : OwnR K B H ct l F) :
    Con K B H σ (r.set i .non) (fun a => O a ∧ a ∉ F) := by
  refine (c.forget i).shrink (fun _ h => h.1) fun j b' c' l' F' e' s' o' a ha => ?_
  rcases get_set e' with ⟨_, z⟩ | ⟨n, e'⟩
  · cases z
  · obtain ⟨m, G, g1, g2, g3⟩ := c.own j b' c' e'
    rw [s'] at g1; cases g1
    refine ⟨?_, fun z => c.sep i j b ct b' c' l l' F F' (Ne.symm n) e e' hs s' o o' a z ha⟩
    rw [ownR_uniq o' g2 fun _ _ => rfl] at g3
    exact g3 a ha
/-- an owned list stands still from now on -/
theorem Con.freeze (c : Con K B H σ r O) {i : Nat} {b : Bool} {ds : List D} (e : r[i]? = some (Sl.own b (.lst ds))) :
    ∃ B' O' v, σ[i]? = some (some v) ∧ Dq K B' v (.list ds) ∧ Step B H O B' H O' ∧ Con K B' H σ (r.set i (.frz b (.list ds))) O' := by
  obtain ⟨l, F, h1, o, h3⟩ := c.own i b _ e
  obtain ⟨rfl, vs, h4, h5⟩ := id o
  have c1 := c.release e h1 o
  have bl : B l = none := c.off l (h3 l (by simp))
  have c2 := c1.still h4 bl (fun h : O l ∧ l ∉ [l] => h.2 (by simp))
  have dp : Dq K (upd B l (.lst vs)) (.ref l) (.list ds) := .lst upd_same (dpa_same (same_new bl) h5)
  refine ⟨upd B l (.lst vs), fun a => O a ∧ a ∉ [l], .ref l, h1, dp, ⟨same_new bl, fun _ _ h _ => h, fun _ h => h, fun a q1 q2 q3 => ?_, fun a h => .inl h.1⟩, ?_⟩
  · rw [upd_ne (show a ≠ l from fun z => q2 (by rw [z]; exact h3 l (by simp)))]
    exact q3
  · have c3 := c2.replace (i := i) (x := .frz b (.list ds)) rfl (fun _ _ => rfl) ⟨_, h1, dp⟩ (fun _ _ e => by cases e)
    rw [List.set_set] at c3
    exact c3
/-- lists that are nobody's stand still from now on -/
theorem Con.stillAll : ∀ {as : List Addr} {rows : List (List D)} {B : Hp} (c : Con K B H σ r O) (ra : RowsAt K B H as rows) (nd : as.Nodup) (hb : ∀ a ∈ as, B a = none ∧ ¬ O a), ∃ B', Same B B' ∧ (∀ a, a ∉ as → B' a = B a) ∧ Con K B' H σ r O ∧ DqAll K B' (as.map V.ref) (rows.map .list)
  | [], _, B, c, .nil, _, _ => ⟨B, Same.refl _, fun _ _ => rfl, c, .nil⟩
  | a :: as, ds :: rows, B, c, .cons h t, nd, hb => by
    obtain ⟨vs, h1, h2⟩ := h
    simp only [List.nodup_cons] at nd
    obtain ⟨b1, n1⟩ := hb a (by simp)
    have c1 := c.still h1 b1 n1
    have sm := same_new (o := .lst vs) b1
    have t' : RowsAt K (upd B a (.lst vs)) H as rows := rowsAt_same sm t fun _ _ => rfl
    obtain ⟨B', s', k', c', d'⟩ := Con.stillAll c1 t' nd.2 fun x hx => by
      rw [upd_ne (show x ≠ a from fun e => nd.1 (e ▸ hx))]
      exact hb x (by simp [hx])
    refine ⟨B', sm.trans s', fun x hx => ?_, c', .cons (.lst (s' _ _ upd_same) (dpa_same (sm.trans s') h2)) d'⟩
    simp only [List.mem_cons, not_or] at hx
    rw [k' x hx.2, upd_ne hx.1]
/-- an owned list of lists stands still from now on -/
theorem Con.freezeLL (c : Con K B H σ r O) {i : Nat} {b : Bool} {rows : List (List D)} (e : r[i]? = some (Sl.own b (.ll rows))) :
    ∃ B' O' v, σ[i]? = some (some v) ∧ Dq K B' v (.list (rows.map .list)) ∧ Step B H O B' H O' ∧ Con K B' H σ (r.set i (.frz b (.list (rows.map .list)))) O' := by
  obtain ⟨l, F, h1, o, h3⟩ := c.own i b _ e
  obtain ⟨as, rfl, h4, nd, ra⟩ := id o
  have c1 := c.release e h1 o
  simp only [List.nodup_cons] at nd
  have off : ∀ a ∈ l :: as, B a = none := fun a ha => c.off a (h3 a ha)
  obtain ⟨B1, s1, k1, c2, d2⟩ := c1.stillAll ra nd.2 fun a ha => ⟨off a (by simp [ha]), fun z => z.2 (by simp [ha])⟩
  have bl : B1 l = none := by rw [k1 l nd.1]; exact off l (by simp)
  have c3 := c2.still h4 bl (fun h : O l ∧ l ∉ l :: as => h.2 (by simp))
  have dp : Dq K (upd B1 l (.lst (as.map V.ref))) (.ref l) (.list (rows.map .list)) := .lst upd_same (dpa_same (same_new bl) d2)
  refine ⟨upd B1 l (.lst (as.map V.ref)), fun a => O a ∧ a ∉ l :: as, .ref l, h1, dp, ⟨s1.trans (same_new bl), fun _ _ h _ => h, fun _ h => h, fun a q1 q2 q3 => ?_, fun a h => .inl h.1⟩, ?_⟩
  · have hn : a ∉ l :: as := fun z => q2 (h3 a z)
    simp only [List.mem_cons, not_or] at hn
    rw [upd_ne hn.1, k1 a hn.2]
    exact q3
  · have c4 := c3.replace (i := i) (x := .frz b (.list (rows.map .list))) rfl (fun _ _ => rfl) ⟨_, h1, dp⟩ (fun _ _ e => by cases e)
    rw [List.set_set] at c4
    exact c4
/-- slot i looks into the list of lists in slot j -/
theorem Con.setAl (c : Con K B H σ r O) {i j k : Nat} {b : Bool} {rows : List (List D)} {l a : Addr} {as : List Addr} (hi : i < σ.length) (hj : r[j]? = some (Sl.own b (.ll rows))) (hs : σ[j]? = some (some (V.ref l))) (hH : H l = some (.lst (as.map V.ref))) (ha : as[k]? = some a) (ne : i ≠ j) :
    Con K B H (σ.set i (some (.ref a))) (r.set i (.al j k)) O := by
  refine ⟨c.toCon0.replace (x := .al j k) List.length_set (fun j n => List.getElem?_set_ne (Ne.symm n)) trivial, fun i2 j2 k2 h b2 rows2 l2 as2 h1 h2 h3 => ?_⟩
  rcases get_set h1 with ⟨_, z⟩ | ⟨n1, h1⟩
  · cases z
  · rw [List.getElem?_set_ne (Ne.symm n1)] at h2
    rcases get_set h with ⟨rfl, z⟩ | ⟨n, h⟩
    · cases z
      rw [hs] at h2; cases h2
      rw [hH] at h3
      have := ref_inj (HO.lst.inj (Option.some.inj h3))
      subst this
      exact ⟨a, ha, List.getElem?_set_self hi⟩
    · rw [List.getElem?_set_ne (Ne.symm n)]
      exact c.al i2 j2 k2 h b2 rows2 l2 as2 h1 h2 h3
/-- shared data is stored in slot i -/
theorem Con.setF (c : Con K B H σ r O) {i : Nat} {b : Bool} {v : V} {d : D} (hi : i < σ.length) (h : Dq K B v d) : Con K B H (σ.set i (some v)) (r.set i (.frz b d)) O :=
  c.replace (x := .frz b d) List.length_set (fun j n => List.getElem?_set_ne (Ne.symm n)) ⟨v, List.getElem?_set_self hi, h⟩ (fun _ _ e => by cases e)
/-- a new object is stored in slot i -/
theorem Con.setN (c : Con K B H σ r O) {H0 : Hp} {i : Nat} {b : Bool} {v : V} {ct : Ct} (hi : i < σ.length) (h : RvR K H0 B H O (.new ct) v) (hal : ∀ rows, ct = .ll rows → noAl r i = true) :
    ∃ F : List Addr, (∀ a ∈ F, H0 a = none ∧ B a = none ∧ ¬ O a) ∧ Con K B H (σ.set i (some v)) (r.set i (.own b ct)) (fun a => O a ∨ a ∈ F) := by
  obtain ⟨l, F, rfl, o, hF⟩ := h
  refine ⟨F, hF, ?_⟩
  have c1 := c.grow (F := F) fun a ha => ⟨(hF a ha).2.1, ownR_some o a ha⟩
  refine c1.replace (x := .own b ct) List.length_set (fun j n => List.getElem?_set_ne (Ne.symm n)) ⟨l, F, List.getElem?_set_self hi, o, fun a ha => .inr ha, fun j b' c' l' F' n e' s' o' a ha hb => ?_⟩ (fun b2 rows e => by cases e; exact hal rows rfl)
  obtain ⟨m, G, g1, g2, g3⟩ := c.own j b' c' e'
  rw [s'] at g1; cases g1
  rw [ownR_uniq o' g2 fun _ _ => rfl] at g3
  exact (hF a ha).2.2 (g3 a hb)
/-- an owned object is changed in place -/
theorem Con.change (c : Con K B H σ r O) {i : Nat} {b : Bool} {ct ct' : Ct} {l : Addr} {F F' : List Addr} (e : r[i]? = some (Sl.own b ct)) (hs : σ[i]? = some (some (V.ref l))) (o : OwnR K B H ct l F)
    (k : ∀ a, a ∉ F → H' a = H a) (o' : OwnR K B H' ct' l F') (hF : ∀ a ∈ F', a ∈ F) (live : ∀ a, H a ≠ none → H' a ≠ none)
    (hal : ∀ rows, ct' = .ll rows → noAl r i = true ∨ (H' l = H l ∧ ∃ rows0, ct = .ll rows0)) : Con K B H' σ (r.set i (.own b ct')) O ∧ Step B H O B H' O := by
  obtain ⟨l0, F0, g1, g2, g3⟩ := c.own i b ct e
  rw [hs] at g1; cases g1
  have hFO : ∀ a ∈ F, O a := fun a ha => by
    rw [ownR_uniq g2 o fun _ _ => rfl] at ha
    exact g3 a ha
  have c1 := (c.release e hs o).toCon0
  have c2 := c1.mono (H' := H') (Same.refl _) (fun a x h => by
    by_cases q : a ∈ F
    · rw [c.off a (hFO a q)] at h; cases h
    · rw [k a q]; exact c.sub a x h) (fun a h => k a h.2) c1.off
  have c3 := c2.grow0 (F := F) fun a ha => ⟨c.off a (hFO a ha), live a (c.liv a (hFO a ha))⟩
  have c4 := c3.replace (i := i) (x := .own b ct') rfl (fun _ _ => rfl) ⟨l, F', hs, o', fun a ha => .inr (hF a ha), fun j b2 c2' l2 F2 n e2 s2 o2 a ha hb => by
    rcases get_set e2 with ⟨_, z⟩ | ⟨n, e2⟩
    · cases z
    · obtain ⟨m, G, q1, q2, q3⟩ := c.own j b2 c2' e2
      rw [s2] at q1; cases q1
      have hz : F2 = G := ownR_uniq q2 o2 fun a ha => k a fun hz => c.sep i j b ct b2 c2' l l2 F G (Ne.symm n) e e2 hs s2 o q2 a hz ha
      subst hz
      exact c.sep i j b ct b2 c2' l l2 F F2 (Ne.symm n) e e2 hs s2 o q2 a (hF a ha) hb⟩
  rw [List.set_set] at c4
  refine ⟨⟨c4.shrink0 (fun a h => ?_) fun j b2 c2' l2 F2 e2 s2 o2 a ha => ?_, fun i2 j k2 h b2 rows l2 as h1 h2 h3 => ?_⟩, ⟨Same.refl _, fun a x h n => ?_, live, fun _ _ _ h => h, fun _ h => .inl h⟩⟩
  · by_cases q : a ∈ F
    · exact .inr q
    · exact .inl ⟨h, q⟩
  · obtain ⟨m, G, q1, q2, q3⟩ := c4.own j b2 c2' e2
    rw [s2] at q1; cases q1
    rw [ownR_uniq o2 q2 fun _ _ => rfl] at q3
    exact (q3 a ha).elim (fun h => h.1) fun h => hFO a h
  · rcases get_set h with ⟨rfl, z⟩ | ⟨n, g⟩
    · cases z
    · rcases get_set h1 with ⟨rfl, z⟩ | ⟨n1, g1⟩
      · cases z
        rw [hs] at h2; cases h2
        rcases hal rows rfl with q | ⟨q, rows0, rfl⟩
        · exact absurd g (noAl_of q)
        · rw [q] at h3
          exact c.al i2 j k2 g b rows0 _ as e hs h3
      · obtain ⟨m, G, q1, q2, q3⟩ := c.own j b2 _ g1
        rw [h2] at q1; cases q1
        rw [k _ (fun hz => c.sep i j b ct b2 _ l _ F G (Ne.symm n1) e g1 hs h2 o q2 _ hz (ownR_mem q2))] at h3
        exact c.al i2 j k2 g b2 rows _ as g1 h2 h3
  · rw [k a fun z => n (hFO a z)]; exact h
end

abbrev Cx.g (X : Cx) : Ct2 := ⟨X.K, X.mg⟩
def DE (X : Cx) (W : WX) (e : Expr) (m : M RV) : Prop := PE X e (tG (Cx.g X) W m (rV (Cx.g X)))
def DO (X : Cx) (W : WX) (e : Expr) (m : M AV) : Prop := PE X e (tG (Cx.g X) W m (rA (Cx.g X)))
def DA (X : Cx) (W : WX) (es : List Expr) (m : M (List AV)) : Prop := PA X es (tG (Cx.g X) W m (rL (Cx.g X)))
def DB (X : Cx) (W : WX) (e : Expr) (m : M Bool) : Prop := PT X e (tG (Cx.g X) W m rB)
theorem pe_weak {X : Cx} {e : Expr} {t t' : TE} (h : PE X e t) (w : ∀ σ H Q, t' σ H Q → t σ H Q) : PE X e t' := ⟨fun pins s σ H Q I q => h.run pins s σ H Q I (w σ H Q q)⟩
theorem pt_weak {X : Cx} {e : Expr} {t t' : TT} (h : PT X e t) (w : ∀ σ H Q, t' σ H Q → t σ H Q) : PT X e t' := ⟨fun pins s σ H Q I q => h.run pins s σ H Q I (w σ H Q q)⟩
theorem pa_weak {X : Cx} {e : List Expr} {t t' : TA} (h : PA X e t) (w : ∀ σ H Q, t' σ H Q → t σ H Q) : PA X e t' := ⟨fun pos pins s σ H Q I q => h.run pos pins s σ H Q I (w σ H Q q)⟩
theorem ps_weak {X : Cx} {e : Stmt} {t t' : TS} (h : PS X e t) (w : ∀ D σ H, t' D σ H → t D σ H) : PS X e t' := ⟨fun pins s σ H D I q => h.run pins s σ H D I (w D σ H q)⟩

theorem bind_assoc {α β γ : Type} (m : M α) (f : α → M β) (k : β → M γ) : (m.bind f).bind k = m.bind fun a => (f a).bind k := by
  funext r
  unfold M.bind
  cases m r with
  | none => rfl
  | some z => obtain ⟨o, r'⟩ := z; cases o <;> rfl
theorem ret_bind {α β : Type} (a : α) (f : α → M β) : (M.ret a).bind f = f a := rfl
theorem mOp_one (g : List Rs → Option RV) (a : M AV) : mOp g [a] = a.bind fun x => mFin g [x] := by
  unfold mOp oL oL
  simp only [bind_assoc, ret_bind]
theorem mOp_two (g : List Rs → Option RV) (a b : M AV) : mOp g [a, b] = a.bind fun x => b.bind fun y => mFin g [x, y] := by
  unfold mOp oL oL oL
  simp only [bind_assoc, ret_bind]

section
variable {X : Cx} {W : WX}
theorem de_const {e : Expr} {v : V} {d : D} (h : PE X e (tC v)) (hd : ∀ B, Dq X.K B v d) : DE X W e (mC d) := pe_weak h fun σ H Q ⟨B, r, O, h⟩ => h.ret (hd B)
theorem de_int {i j pos} : DE X W (.Constant (.int i) j pos) (mC (.int i)) := de_const pe_int fun _ => .int i
theorem de_bl {i j pos} : DE X W (.Constant (.bool i) j pos) (mC (.bool i)) := de_const pe_bl fun _ => .bl i
theorem de_non {j pos} : DE X W (.Constant .none j pos) (mC .none) := de_const pe_non fun _ => .non
theorem de_str {x j pos} : DE X W (.Constant (.str x) j pos) (mC (.str x)) := de_const pe_str fun _ => .str x
theorem bor_set {r : Ro} {σ : L2.St} {i : Nat} {x y : Sl} (h : r[i]? = some x) (hp : pinned x = true → pinned y = true) : Bor r σ (r.set i y) σ := fun j z hz pz => by
  refine ⟨?_, rfl⟩
  by_cases e : j = i
  · subst e
    rw [h] at hz; cases hz
    obtain ⟨hl, _⟩ := List.getElem?_eq_some_iff.mp h
    exact ⟨y, List.getElem?_set_self hl, hp pz⟩
  · exact ⟨z, by rw [List.getElem?_set_ne (Ne.symm e)]; exact hz, pz⟩
/-- the slot i as a value -/
theorem rd_var {i : Nat} {σ : L2.St} {H : Hp} {Q : VK} : tG (Cx.g X) W (mRd i) (rV (Cx.g X)) σ H Q → tVar i σ H Q := fun ⟨B, r, O, c, o, r', e, p⟩ => by
  unfold mRd at e
  split at e
  · rename_i b d q
    cases e
    obtain ⟨v, h1, h2⟩ := c.frz i b d q
    exact ⟨v, h1, p B H O v .refl c .refl h2⟩
  · rename_i b ds q
    cases e
    obtain ⟨B', O', v, h1, h2, s, c'⟩ := c.freeze q
    exact ⟨v, h1, p B' H O' v s c' (bor_set q fun z => z) h2⟩
  · rename_i b rows q
    cases e
    obtain ⟨B', O', v, h1, h2, s, c'⟩ := c.freezeLL q
    exact ⟨v, h1, p B' H O' v s c' (bor_set q fun z => z) h2⟩
  · cases e
theorem de_var {e : Expr} {i : Nat} (h : PE X e (tVar i)) : DE X W e (mRd i) := pe_weak h fun σ H Q => rd_var
/-- the slot i as an operand -/
theorem do_var {e : Expr} {i : Nat} (h : PE X e (tVar i)) : DO X W e (oS i) := pe_weak h fun σ H Q ⟨B, r, O, c, o, r', e, p⟩ => by
  unfold oS at e
  split at e
  · rename_i x q
    cases e
    have : ∃ v, σ[i]? = some (some v) := by
      simp only [look2] at q
      split at q
      · rename_i b d z
        obtain ⟨v, h1, _⟩ := c.frz i b d z
        exact ⟨v, h1⟩
      · rename_i b ct z
        obtain ⟨l, F, h1, _⟩ := c.own i b ct z
        exact ⟨_, h1⟩
      · rename_i j k z
        split at q
        · rename_i b rows z2
          cases z3 : rows[k]? with
          | none => rw [z3] at q; cases q
          | some ds =>
            obtain ⟨l, F, h1, ⟨as, rfl, h2, nd, ra⟩, h3⟩ := c.own j b _ z2
            obtain ⟨a, g1, g2⟩ := c.al i j k z b rows l as z2 h1 h2
            exact ⟨_, g2⟩
        · cases q
      · cases q
    obtain ⟨v, h1⟩ := this
    exact ⟨v, h1, p B H O v .refl c .refl h1⟩
  · cases e
/-- an expression as an operand -/
theorem do_of {e : Expr} {m : M RV} (h : DE X W e m) : DO X W e (oE m) := pe_weak h fun σ H Q ⟨B, r, O, c, o, r', e, p⟩ => by
  refine ⟨B, r, O, c, ?_⟩
  unfold oE M.bind at e
  cases q : m r with
  | none => rw [q] at e; cases e
  | some z =>
    obtain ⟨o1, r1⟩ := z
    rw [q] at e
    refine ⟨o1, r1, rfl, ?_⟩
    cases o1 with
    | exc x => cases e; exact p
    | ok rv =>
      simp only [M.of] at e
      cases qd : rv.data with
      | none => rw [qd] at e; cases e
      | some d =>
        rw [qd] at e
        cases e
        intro B1 H1 O1 v s1 c1 b1 x1
        obtain ⟨B2, s2, c2, dp, _⟩ := c1.frozen s1 x1 qd
        exact p B2 H1 O1 v s2 c2 b1 dp
theorem da_nil : DA X W [] (oL []) := pa_weak pa_nil fun σ H Q ⟨B, r, O, h⟩ => h.ret .nil
theorem da_cons {e : Expr} {es : List Expr} {m : M AV} {ms : List (M AV)} (h : DO X W e m) (t : DA X W es (oL ms)) (hs : starEach (e :: es) X.env = (false, eval e X.env) :: starEach es X.env := by rfl) : DA X W (e :: es) (oL (m :: ms)) := pa_weak (pa_cons h t hs) fun σ H Q ⟨B, r, O, h⟩ => by
  refine tG.of ((h.bind later_rL (R := rA (Cx.g X))).mono ?_)
  rintro x H1 ⟨a, B1, r1, O1, s1, x1, h1⟩
  refine tG.of ((h1.bind later_rL (R := rL (Cx.g X))).mono ?_)
  rintro xs H2 ⟨as, B2, r2, O2, s2, x2, h2⟩
  exact h2.ret (Paired.cons (x1.same s2.sB) x2)
end
end DL
end

section
namespace DL
open PySem
/-- at most so many items -/
def lineD : Nat := 16777216
/-- a place in a row, from the front or (below nought) from behind -/
def ixD (n : Nat) (i : Int) : Option Nat := if 0 ≤ i then (if i < n then some i.toNat else none) else if -(n : Int) ≤ i then some (i + n).toNat else none
def I2 (f : Int → Int → Option D) : List Rs → Option RV
  | [.fz (.int i), .fz (.int j)] => (f i j).map .val
  | _ => none
def gSub : List Rs → Option RV := I2 fun i j => some (.int (i - j))
def gMod : List Rs → Option RV := I2 fun i j => if 0 < j then some (.int (i % j)) else none
def gDiv : List Rs → Option RV := I2 fun i j => if 0 < j ∧ j.natAbs.log2 < 9000 then some (.int (i / j)) else none
def gPow : List Rs → Option RV := I2 fun i j => if 0 ≤ j ∧ j ≤ 1000000 ∧ i.natAbs < 2 ^ 64 then some (.int (i ^ j.toNat)) else none
def gLt : List Rs → Option RV := I2 fun i j => some (.bool (decide (i < j)))
def gLe : List Rs → Option RV := I2 fun i j => some (.bool (decide (i ≤ j)))
def gGt : List Rs → Option RV := I2 fun i j => some (.bool (decide (j < i)))
def gGe : List Rs → Option RV := I2 fun i j => some (.bool (decide (j ≤ i)))
/-- + -/
def addD : D → D → Option RV
  | .int i, .int j => some (.val (.int (i + j)))
  | .tuple xs, .tuple ys => if xs.length + ys.length ≤ lineD then some (.val (.tuple (xs ++ ys))) else none
  | .list xs, .list ys => if xs.length + ys.length ≤ lineD then some (.new (.lst (xs ++ ys))) else none
  | _, _ => none
def gAdd : List Rs → Option RV
  | [a, b] => match a.data, b.data with
    | some x, some y => addD x y
    | _, _ => none
  | _ => none
/-- * -/
def mulD : D → D → Option RV
  | .int i, .int j => if i.natAbs.log2 + j.natAbs.log2 < 1000000 then some (.val (.int (i * j))) else none
  | .list xs, .int k => if -(2 ^ 63) ≤ k ∧ k < 2 ^ 63 ∧ xs.length * k.toNat ≤ lineD then some (.new (.lst (List.replicate k.toNat xs).flatten)) else none
  | _, _ => none
def gMul : List Rs → Option RV
  | [a, b] => match a.data, b.data with
    | some x, some y => mulD x y
    | _, _ => none
  | _ => none
/-- such data can be compared -/
def okD (d : D) : Bool := d.canLay0 && decide (d.depth ≤ 64)
def gEq : List Rs → Option RV
  | [a, b] => match a.data, b.data with
    | some x, some y => if okD x && okD y then some (.val (.bool (PyData.eqv x y))) else none
    | _, _ => none
  | _ => none
def gNe : List Rs → Option RV
  | [a, b] => match a.data, b.data with
    | some x, some y => if okD x && okD y then some (.val (.bool (!PyData.eqv x y))) else none
    | _, _ => none
  | _ => none
/-- o[i] of lists and tuples -/
def getD : D → D → Option D
  | .list xs, .int i => (ixD xs.length i).bind fun j => xs[j]?
  | .tuple xs, .int i => (ixD xs.length i).bind fun j => xs[j]?
  | _, _ => none
def kyOf : D → Option Ky
  | .int i => some (.inl i)
  | .str x => some (.inr x)
  | _ => none
def gIx : List Rs → Option RV
  | [a, b] => match a.data, b.data with
    | some x, some y => (getD x y).map .val
    | _, _ => none
  | _ => none
def gAbs : List Rs → Option RV
  | [.fz (.int i)] => some (.val (.int (if i < 0 then -i else i)))
  | _ => none
def gMax2 : List Rs → Option RV := I2 fun i j => some (.int (if j > i then j else i))
def gMin2 : List Rs → Option RV := I2 fun i j => some (.int (if j < i then j else i))
def rowOf : D → Option (List D)
  | .list xs => some xs
  | .tuple xs => some xs
  | _ => none
def gTuple : List Rs → Option RV
  | [a] => (a.data.bind rowOf).map fun xs => .val (.tuple xs)
  | _ => none
def dataAll : List Rs → Option (List D)
  | [] => some []
  | .fz d :: r => (dataAll r).map (d :: ·)
  | .ow _ :: _ => none
/-- (a, b, ..): operands that stand still -/
def gTup (as : List Rs) : Option RV := (dataAll as).bind fun ds => if ds.length ≤ lineD then some (.val (.tuple ds)) else none
def gLst (as : List Rs) : Option RV := (dataAll as).bind fun ds => if ds.length ≤ lineD then some (.new (.lst ds)) else none
def boolV : RV → Option Bool
  | .val (.bool b) => some b
  | _ => none
/-- a test by a value that is True or False -/
def mTst (m : M RV) : M Bool := m.bind fun v => M.of (boolV v)
def mNot (m : M Bool) : M Bool := m.bind fun b => M.ret (!b)
def mAnd (a b : M Bool) : M Bool := a.bind fun x => if x then b else M.ret false
def mOr (a b : M Bool) : M Bool := a.bind fun x => if x then M.ret true else b
/-- a test by truth -/
def mFz (m : M RV) : M D := m.bind fun v => M.of v.data
/-- the values of and, or, not: all but the last are True or False -/
def mAndV (a b : M RV) : M RV := a.bind fun v => match v with
  | .val (.bool true) => b
  | .val (.bool false) => M.ret (.val (.bool false))
  | _ => M.of none
def mOrV (a b : M RV) : M RV := a.bind fun v => match v with
  | .val (.bool false) => b
  | .val (.bool true) => M.ret (.val (.bool true))
  | _ => M.of none
def mNotV (a : M RV) : M RV := a.bind fun v => match v with
  | .val (.bool b) => M.ret (.val (.bool !b))
  | _ => M.of none
end DL
end

section
namespace DL
open PySem PySem.Spec PyProof.Rows L2
theorem line_eq : lineD = sizeLine := by rw [sizeLine_eq]; rfl

section
variable {X : Cx} {W : WX}
def OpD (X : Cx) (f : Value → Value → Sem Value) (g : List Rs → Option RV) : Prop :=
  OpR X f fun x y H Q => ∃ B a b z, Same B H ∧ RsR X.K B H a x ∧ RsR X.K B H b y ∧ g [a, b] = some z ∧ ∀ H' v, Alc X.K B H H' z v → Q v H'
def IxOD (X : Cx) (g : List Rs → Option RV) : Prop :=
  IxR X fun x y H Q => ∃ B a b z, Same B H ∧ RsR X.K B H a x ∧ RsR X.K B H b y ∧ g [a, b] = some z ∧ ∀ H' v, Alc X.K B H H' z v → Q v H'
def UnD (X : Cx) (f : Value → Sem Value) (g : List Rs → Option RV) : Prop :=
  UnR X f fun x H Q => ∃ B a z, Same B H ∧ RsR X.K B H a x ∧ g [a] = some z ∧ ∀ H' v, Alc X.K B H H' z v → Q v H'
def CallD (X : Cx) (f : Value) (g : List Rs → Option RV) : Prop :=
  CallR X f fun vs H Q => ∃ B as z, Same B H ∧ Paired (RsR X.K B H) as vs ∧ g as = some z ∧ ∀ H' v, Alc X.K B H H' z v → Q v H'
theorem At.fin {g : List Rs → Option RV} {as : List AV} {B : Hp} {r : Ro} {O : Addr → Prop} {σ : L2.St} {H : Hp} {vs : List V} {Q : VK} (h : At (Cx.g X) W (mFin g as) (rV (Cx.g X)) B r O σ H Q) (x : Paired (AvR X.K B σ) as vs) :
    ∃ xs z, Same B H ∧ Paired (RsR X.K B H) xs vs ∧ g xs = some z ∧ ∀ H' v, Alc X.K B H H' z v → Q v H' := by
  obtain ⟨c, o, r', e, p⟩ := h
  unfold mFin at e
  split at e
  · cases e
  · rename_i xs q
    cases qg : g xs with
    | none => rw [qg] at e; cases e
    | some z =>
      rw [qg] at e
      cases e
      refine ⟨xs, z, c.sub, c.looks2_ q x, qg, fun H' v a => ?_⟩
      obtain ⟨B', s, c', rv⟩ := c.alc a
      exact p B' H' O v s c' .refl rv
theorem At.ofBool {v : RV} {B : Hp} {r : Ro} {O : Addr → Prop} {σ : L2.St} {H H0 : Hp} {y : V} {Q : Bool → Hp → Prop} (h : At (Cx.g X) W (M.of (boolV v)) rB B r O σ H Q) (x : rV (Cx.g X) H0 B H O σ v y) : ∃ k, y = .bl k ∧ Q k H := by
  obtain ⟨c, o, r', e, p⟩ := h
  cases v with
  | val d =>
    cases d with
    | bool b =>
      cases e
      exact ⟨b, dp_bl x, p B H O b .refl c .refl rfl⟩
    | _ => cases e
  | new c => cases e
theorem two_ops {e1 e2 : Expr} {oa ob : M AV} {g : List Rs → Option RV} {σ : L2.St} {H : Hp} {Q : VK} (h : tG (Cx.g X) W (mOp g [oa, ob]) (rV (Cx.g X)) σ H Q) :
    tOp (fun x y H Q => ∃ B a b z, Same B H ∧ RsR X.K B H a x ∧ RsR X.K B H b y ∧ g [a, b] = some z ∧ ∀ H' v, Alc X.K B H H' z v → Q v H') (tG (Cx.g X) W oa (rA (Cx.g X))) (tG (Cx.g X) W ob (rA (Cx.g X))) σ H Q := by
  obtain ⟨B, r, O, h⟩ := h
  rw [mOp_two] at h
  refine tG.of ((h.bind later_rV (R := rA (Cx.g X))).mono ?_)
  rintro x H1 ⟨a, B1, r1, O1, s1, x1, h1⟩
  refine tG.of ((h1.bind later_rV (R := rA (Cx.g X))).mono ?_)
  rintro y H2 ⟨b, B2, r2, O2, s2, x2, h2⟩
  obtain ⟨xs, z, sb, p, hg, q⟩ := h2.fin (.cons (x1.same s2.sB) (.cons x2 .nil))
  cases p with
  | cons p1 p => cases p with
    | cons p2 p =>
      cases p
      exact ⟨B2, _, _, z, sb, p1, p2, hg, q⟩
theorem de_bin {a b : Expr} {op : Operator} {pos : Pos} {g : List Rs → Option RV} {oa ob : M AV} (ho : OpD X (binaryOp op) g) (ha : DO X W a oa) (hb : DO X W b ob) : DE X W (.BinOp a op b pos) (mOp g [oa, ob]) :=
  pe_weak (pe_op ho ha hb) fun σ H Q h => two_ops (e1 := a) (e2 := b) h
theorem de_cmp {a b : Expr} {op : CmpOp} {pos : Pos} {g : List Rs → Option RV} {oa ob : M AV} (ho : OpD X (compareOp op) g) (ha : DO X W a oa) (hb : DO X W b ob) (hm : behindInMarks op b = false) : DE X W (.Compare a [op] [b] pos) (mOp g [oa, ob]) :=
  pe_weak (pe_cmpR ho ha hb hm) fun σ H Q h => two_ops (e1 := a) (e2 := b) h
theorem de_ix {a b : Expr} {pos : Pos} {g : List Rs → Option RV} {oa ob : M AV} (ho : IxOD X g) (ha : DO X W a oa) (hb : DO X W b ob) (hs : PlainIx b) : DE X W (.Subscript a b pos) (mOp g [oa, ob]) :=
  pe_weak (pe_ix ho ha hb hs) fun σ H Q h => two_ops (e1 := a) (e2 := b) h
theorem de_un {a : Expr} {op : UnaryOp} {pos : Pos} {g : List Rs → Option RV} {oa : M AV} (ho : UnD X (unaryOp op) g) (ha : DO X W a oa) : DE X W (.UnaryOp op a pos) (mOp g [oa]) :=
  pe_weak (pe_un ho ha) fun σ H Q ⟨B, r, O, h⟩ => by
    rw [mOp_one] at h
    refine tG.of ((h.bind later_rV (R := rA (Cx.g X))).mono ?_)
    rintro x H1 ⟨a, B1, r1, O1, s1, x1, h1⟩
    obtain ⟨xs, z, sb, p, hg, q⟩ := h1.fin (.cons x1 .nil)
    cases p with
    | cons p1 p => cases p; exact ⟨B1, _, z, sb, p1, hg, q⟩
/-- a test from a comparison -/
theorem db_cmp {a b : Expr} {op : CmpOp} {pos : Pos} {g : List Rs → Option RV} {oa ob : M AV} (ho : OpD X (compareOp op) g) (ha : DO X W a oa) (hb : DO X W b ob) (hm : behindInMarks op b = false) : DB X W (.Compare a [op] [b] pos) (mTst (mOp g [oa, ob])) :=
  pt_weak (pt_cmpR ho ha hb hm) fun σ H Q ⟨B, r, O, h⟩ => by
    refine two_ops (e1 := a) (e2 := b) (tG.of ((h.bind later_rB (R := rV (Cx.g X))).mono ?_))
    rintro y H1 ⟨v, B1, r1, O1, s1, x1, h1⟩
    exact h1.ofBool x1
end
end DL
end

section
namespace DL
open PySem PySem.Spec PyProof.Rows L2

section
variable {K : PySem.W.Frag} {B H : Hp}
/-- a row that is looked at -/
theorem rs_list {a : Rs} {ds : List D} {v : V} (sb : Same B H) (h : RsR K B H a v) (e : a.data = some (.list ds)) : ∃ l vs, v = .ref l ∧ H l = some (.lst vs) ∧ DqAll K B vs ds := by
  cases a with
  | fz d =>
    cases e
    obtain ⟨l, vs, rfl, s, d⟩ := dp_list h
    exact ⟨l, vs, rfl, sb _ _ s, d⟩
  | ow c =>
    cases c with
    | lst es =>
      cases e
      obtain ⟨l, F, rfl, _, vs, e1, d⟩ := h
      exact ⟨l, vs, rfl, e1, d⟩
    | dK _ => cases e
    | dT _ => cases e
    | ll _ => cases e
    | dl _ => cases e
    | dp _ => cases e
    | tl _ => cases e
    | obj _ _ => cases e
    | exn _ _ => cases e
    | tab _ _ => cases e
theorem rs_tuple {a : Rs} {ds : List D} {v : V} (sb : Same B H) (h : RsR K B H a v) (e : a.data = some (.tuple ds)) : ∃ l vs, v = .ref l ∧ TupAt H l vs ∧ DqAll K B vs ds := by
  cases a with
  | fz d =>
    cases e
    obtain ⟨l, vs, rfl, s, d⟩ := dp_tuple h
    exact ⟨l, vs, rfl, tup_same sb s, d⟩
  | ow c => cases c <;> cases e
theorem rs_dp {a : Rs} {d : D} {v : V} (sb : Same B H) (h : RsR K B H a v) (e : a.data = some d) : Dq K H v d := by
  cases a with
  | fz d' => cases e; exact dp_same sb h
  | ow c =>
    cases c with
    | lst es =>
      cases e
      obtain ⟨l, F, rfl, _, vs, e1, d⟩ := h
      exact .lst e1 (dpa_same sb d)
    | dK _ => cases e
    | dT _ => cases e
    | ll _ => cases e
    | dl _ => cases e
    | dp _ => cases e
    | tl _ => cases e
    | obj _ _ => cases e
    | exn _ _ => cases e
    | tab _ _ => cases e
theorem rs_int {a : Rs} {i : Int} {v : V} (h : RsR K B H a v) (e : a.data = some (.int i)) : v = .int i := by
  cases a with
  | fz d => cases e; exact dp_int h
  | ow c => cases c <;> cases e
theorem rs_str {a : Rs} {i : Str} {v : V} (h : RsR K B H a v) (e : a.data = some (.str i)) : v = .str i := by
  cases a with
  | fz d => cases e; exact dp_str h
  | ow c => cases c <;> cases e
theorem alc_val {v : V} {d : D} {Q : VK} (q : ∀ H' v, Alc K B H H' (.val d) v → Q v H') (h : Dq K B v d) : Q v H := q H v (.inl ⟨rfl, h⟩)
theorem alc_tup {vs : List V} {ds : List D} {Q : VK} (q : ∀ H' v, Alc K B H H' (.val (.tuple ds)) v → Q v H') (h : DqAll K B vs ds) (p : Addr) (o : Obj) (hp : H p = none) (ht : TP o) : Q (.ref p) (upd H p (.frz o (.tup vs))) :=
  q _ _ (.inr ⟨p, vs, ds, o, hp, ht, rfl, rfl, h, rfl⟩)
theorem alc_lst {vs : List V} {ds : List D} {Q : VK} (q : ∀ H' v, Alc K B H H' (.new (.lst ds)) v → Q v H') (h : DqAll K B vs ds) (p : Addr) (hp : H p = none) : Q (.ref p) (upd H p (.lst vs)) :=
  q _ _ ⟨p, vs, hp, rfl, h, rfl⟩
end

section
variable {X : Cx} {W : WX}
theorem i2_of {f : Int → Int → Option D} {a b : Rs} {z : RV} (h : I2 f [a, b] = some z) : ∃ i j d, a = .fz (.int i) ∧ b = .fz (.int j) ∧ f i j = some d ∧ z = .val d := by
  unfold I2 at h
  split at h
  · rename_i i j e
    cases e
    cases q : f i j with
    | none => rw [q] at h; cases h
    | some d => rw [q] at h; cases h; exact ⟨i, j, d, rfl, rfl, q, rfl⟩
  · cases h
/-- from a rule on ints -/
theorem opD_int {f : Value → Value → Sem Value} {C : Int → Int → Prop} {g : Int → Int → V} {k : Int → Int → Option D} (ho : OpR X f (rI C g)) (hk : ∀ i j d, k i j = some d → C i j ∧ ∀ B, Dq X.K B (g i j) d) : OpD X f (I2 k) := by
  intro pins s σ H x y v u Q I rx ry ⟨B, a, b, z, sb, r1, r2, hg, q⟩
  obtain ⟨i, j, d, rfl, rfl, e, rfl⟩ := i2_of hg
  obtain ⟨hc, hd⟩ := hk i j d e
  exact ho pins s σ H x y v u Q I rx ry ⟨i, j, dp_int r1, dp_int r2, hc, alc_val q (hd B)⟩
theorem opD_int0 {f : Value → Value → Sem Value} {g : Int → Int → V} {k : Int → Int → Option D} (ho : OpR X f (rI0 g)) (hk : ∀ i j d, k i j = some d → ∀ B, Dq X.K B (g i j) d) : OpD X f (I2 k) := by
  intro pins s σ H x y v u Q I rx ry ⟨B, a, b, z, sb, r1, r2, hg, q⟩
  obtain ⟨i, j, d, rfl, rfl, e, rfl⟩ := i2_of hg
  exact ho pins s σ H x y v u Q I rx ry ⟨i, j, dp_int r1, dp_int r2, alc_val q (hk i j d e B)⟩
theorem od_sub : OpD X (binaryOp .Sub) gSub := opD_int0 op_sub fun i j d e B => by cases e; exact .int _
theorem od_mod : OpD X (binaryOp .Mod) gMod := opD_int op_mod fun i j d e => by
  split at e
  · rename_i h; cases e; exact ⟨h, fun B => .int _⟩
  · cases e
theorem od_div : OpD X (binaryOp .FloorDiv) gDiv := opD_int op_fdivW fun i j d e => by
  split at e
  · rename_i h; cases e; exact ⟨h, fun B => .int _⟩
  · cases e
theorem od_pow : OpD X (binaryOp .Pow) gPow := opD_int op_pow fun i j d e => by
  split at e
  · rename_i h; cases e; exact ⟨h, fun B => .int _⟩
  · cases e
theorem od_lt : OpD X (compareOp .Lt) gLt := opD_int0 op_lt fun i j d e B => by cases e; exact .bl _
theorem od_le : OpD X (compareOp .LtE) gLe := opD_int0 op_le fun i j d e B => by cases e; exact .bl _
theorem od_gt : OpD X (compareOp .Gt) gGt := opD_int0 op_gt fun i j d e B => by cases e; exact .bl _
theorem od_ge : OpD X (compareOp .GtE) gGe := opD_int0 op_ge fun i j d e B => by cases e; exact .bl _
theorem g2_of {f : D → D → Option RV} {a b : Rs} {z : RV} (h : (match a.data, b.data with | some x, some y => f x y | _, _ => none) = some z) : ∃ x y, a.data = some x ∧ b.data = some y ∧ f x y = some z := by
  split at h
  · rename_i x y e1 e2; exact ⟨x, y, e1, e2, h⟩
  · cases h
theorem od_add : OpD X (binaryOp .Add) gAdd := by
  intro pins s σ H x y v u Q I rx ry ⟨B, a, b, z, sb, r1, r2, hg, q⟩
  obtain ⟨d, e, h1, h2, hf⟩ := g2_of hg
  unfold addD at hf
  split at hf
  · cases hf
    exact op_add pins s σ H x y v u Q I rx ry ⟨_, _, rs_int r1 h1, rs_int r2 h2, alc_val q (.int _)⟩
  · rename_i xs ys
    split at hf
    · rename_i hl
      cases hf
      obtain ⟨l, vs, rfl, s1, d1⟩ := rs_tuple sb r1 h1
      obtain ⟨m, ws, rfl, s2, d2⟩ := rs_tuple sb r2 h2
      refine fop_cat pins s σ H _ _ v u Q I rx ry ⟨l, m, vs, ws, rfl, rfl, s1.sq, s2.sq, by rw [d1.length, d2.length, ← line_eq]; exact hl, fun e => ?_, fun _ e => ?_, fun _ _ => alc_tup q (d1.append d2)⟩
      · subst e
        cases d1
        cases b with
        | fz d' => cases h2; exact alc_val q r2
        | ow c => cases c <;> cases h2
      · subst e
        cases d2
        rw [List.append_nil] at q
        cases a with
        | fz d' => cases h1; exact alc_val q r1
        | ow c => cases c <;> cases h1
    · cases hf
  · rename_i xs ys
    split at hf
    · rename_i hl
      cases hf
      obtain ⟨l, vs, rfl, s1, d1⟩ := rs_list sb r1 h1
      obtain ⟨m, ws, rfl, s2, d2⟩ := rs_list sb r2 h2
      exact op_cat pins s σ H _ _ v u Q I rx ry ⟨l, m, vs, ws, rfl, rfl, s1, s2, by rw [d1.length, d2.length, ← line_eq]; exact hl, alc_lst q (d1.append d2)⟩
    · cases hf
  · cases hf
theorem DqAll.rep {K : PySem.W.Frag} {H : Hp} {vs : List V} {ds : List D} (h : DqAll K H vs ds) : ∀ k : Nat, DqAll K H (List.replicate k vs).flatten (List.replicate k ds).flatten
  | 0 => .nil
  | k + 1 => by
    rw [List.replicate_succ, List.replicate_succ, List.flatten_cons, List.flatten_cons]
    exact h.append (DqAll.rep h k)
theorem od_mul : OpD X (binaryOp .Mult) gMul := by
  intro pins s σ H x y v u Q I rx ry ⟨B, a, b, z, sb, r1, r2, hg, q⟩
  obtain ⟨d, e, h1, h2, hf⟩ := g2_of hg
  unfold mulD at hf
  split at hf
  · split at hf
    · rename_i hc
      cases hf
      exact op_mulW pins s σ H x y v u Q I rx ry ⟨_, _, rs_int r1 h1, rs_int r2 h2, hc, alc_val q (.int _)⟩
    · cases hf
  · rename_i xs k
    split at hf
    · rename_i hc
      cases hf
      obtain ⟨l, vs, rfl, s1, d1⟩ := rs_list sb r1 h1
      exact op_rep pins s σ H _ y v u Q I rx ry ⟨l, k, vs, rfl, rs_int r2 h2, s1, hc.1, hc.2.1, by rw [d1.length, ← line_eq]; exact hc.2.2, alc_lst q (d1.rep k.toNat)⟩
    · cases hf
  · cases hf
theorem okD_shaped {d : D} (h : okD d = true) : SeqAt.shaped d = true := h
theorem okD_lay {d : D} (h : okD d = true) : d.canLay0 = true := (Bool.and_eq_true_iff.mp h).1
theorem od_eq (hu : X.A.units + 64 < cLine) : OpD X (compareOp .Eq) gEq := by
  intro pins s σ H x y v u Q I rx ry ⟨B, a, b, z, sb, r1, r2, hg, q⟩
  obtain ⟨d, e, h1, h2, hf⟩ := g2_of hg
  split at hf
  · rename_i hc
    cases hf
    obtain ⟨k1, k2⟩ := Bool.and_eq_true_iff.mp hc
    exact op_eqD hu pins s σ H x y v u Q I rx ry ⟨d, e, dq_dp (rs_dp sb r1 h1) (okD_lay k1), dq_dp (rs_dp sb r2 h2) (okD_lay k2), okD_shaped k1, okD_shaped k2, alc_val q (.bl _)⟩
  · cases hf
theorem od_ne (hu : X.A.units + 64 < cLine) : OpD X (compareOp .NotEq) gNe := by
  intro pins s σ H x y v u Q I rx ry ⟨B, a, b, z, sb, r1, r2, hg, q⟩
  obtain ⟨d, e, h1, h2, hf⟩ := g2_of hg
  split at hf
  · rename_i hc
    cases hf
    obtain ⟨k1, k2⟩ := Bool.and_eq_true_iff.mp hc
    exact op_neD hu pins s σ H x y v u Q I rx ry ⟨d, e, dq_dp (rs_dp sb r1 h1) (okD_lay k1), dq_dp (rs_dp sb r2 h2) (okD_lay k2), okD_shaped k1, okD_shaped k2, alc_val q (.bl _)⟩
  · cases hf
theorem cd_abs : CallD X (.builtin "abs") gAbs := by
  intro pins s σ H vs us Q I r ⟨B, as, z, sb, p, hg, q⟩
  unfold gAbs at hg
  split at hg
  · cases hg
    cases p with
    | cons p1 p =>
      cases p
      cases dp_int p1
      exact call_abs pins s σ H _ us Q I r ⟨_, rfl, alc_val q (.int _)⟩
  · cases hg
theorem cd_i2 {f : Value} {k : Int → Int → Option D} {g : Int → Int → Int} (ho : CallR X f (fun xs H Q => ∃ i j, xs = [.int i, .int j] ∧ Q (.int (g i j)) H)) (hk : ∀ i j d, k i j = some d → d = .int (g i j)) : CallD X f (I2 k) := by
  intro pins s σ H vs us Q I r ⟨B, as, z, sb, p, hg, q⟩
  unfold I2 at hg
  split at hg
  · rename_i i j
    cases e : k i j with
    | none => rw [e] at hg; cases hg
    | some d =>
      rw [e] at hg
      cases hg
      have := hk i j d e
      subst this
      cases p with
      | cons p1 p =>
        cases p with
        | cons p2 p =>
          cases p
          cases dp_int p1
          cases dp_int p2
          exact ho pins s σ H _ us Q I r ⟨i, j, rfl, alc_val q (.int _)⟩
  · cases hg
theorem cd_max2 (hc : X.calm = true) : CallD X (.builtin "max") gMax2 := cd_i2 (call_max2 hc) fun i j d e => by cases e; rfl
theorem cd_min2 (hc : X.calm = true) : CallD X (.builtin "min") gMin2 := cd_i2 (call_min2 hc) fun i j d e => by cases e; rfl
theorem row_of {d : D} {xs : List D} (h : rowOf d = some xs) : d = .list xs ∨ d = .tuple xs := by
  cases d <;> first | (cases h; first | exact .inl rfl | exact .inr rfl) | cases h
theorem cd_tuple : CallD X (.type "tuple") gTuple := by
  intro pins s σ H vs us Q I r ⟨B, as, z, sb, p, hg, q⟩
  unfold gTuple at hg
  split at hg
  · rename_i a
    cases e : a.data.bind rowOf with
    | none => rw [e] at hg; cases hg
    | some xs =>
      rw [e] at hg
      cases hg
      obtain ⟨d, e1, e2⟩ := Option.bind_eq_some_iff.mp e
      cases p with
      | cons p1 p =>
        cases p
        rcases row_of e2 with rfl | rfl
        · obtain ⟨l, vs, rfl, s1, d1⟩ := rs_list sb p1 e1
          exact fcall_tuple pins s σ H _ us Q I r ⟨l, vs, rfl, .inl ⟨.of s1, alc_tup q d1⟩⟩
        · obtain ⟨l, vs, rfl, s1, d1⟩ := rs_tuple sb p1 e1
          refine fcall_tuple pins s σ H _ us Q I r ⟨l, vs, rfl, .inr ⟨s1.sq, ?_⟩⟩
          cases a with
          | fz d' => cases e1; exact alc_val q p1
          | ow c => cases c <;> cases e1
  · cases hg
theorem ixd_get : IxOD X gIx := by
  intro value slice pins s σ H x y v u Q I rx ry ⟨B, a, b, z, sb, r1, r2, hg, q⟩ hs
  obtain ⟨d, e, h1, h2, hf⟩ := g2_of hg
  cases hz : getD d e with
  | none => rw [hz] at hf; cases hf
  | some w =>
    rw [hz] at hf
    cases hf
    unfold getD at hz
    split at hz
    · rename_i xs i
      obtain ⟨j, e1, e2⟩ := Option.bind_eq_some_iff.mp hz
      obtain ⟨l, vs, rfl, s1, d1⟩ := rs_list sb r1 h1
      obtain ⟨v', e3, e4⟩ := d1.get e2
      refine ix_list value slice pins s σ H _ y v u Q I rx ry ⟨l, vs, i, v', rfl, rs_int r2 h2, .of s1, ?_, alc_val q e4⟩ hs
      unfold atI
      rw [d1.length, show ixN xs.length i = some j from e1]
      exact e3
    · rename_i xs i
      obtain ⟨j, e1, e2⟩ := Option.bind_eq_some_iff.mp hz
      obtain ⟨l, vs, rfl, s1, d1⟩ := rs_tuple sb r1 h1
      obtain ⟨v', e3, e4⟩ := d1.get e2
      refine ix_tup value slice pins s σ H _ y v u Q I rx ry ⟨l, vs, i, v', rfl, rs_int r2 h2, s1.sq, ?_, alc_val q e4⟩ hs
      unfold atI
      rw [d1.length, show ixN xs.length i = some j from e1]
      exact e3
    · cases hz
end
end DL
end

section
namespace DL
open PySem PySem.Spec PyProof.Rows L2
section
variable {X : Cx} {W : WX}
def DW (X : Cx) (W : WX) (e : Expr) (m : M Bool) : Prop := PW X e (tG (Cx.g X) W m rB)
theorem pw_weak {e : Expr} {t t' : TT} (h : PW X e t) (w : ∀ σ H Q, t' σ H Q → t σ H Q) : PW X e t' := ⟨fun whole pins s σ H Q I q => h.run whole pins s σ H Q I (w σ H Q q)⟩
theorem db_not {a : Expr} {pos : Pos} {m : M Bool} (h : DB X W a m) : DB X W (.UnaryOp .Not a pos) (mNot m) := pt_weak (pt_not h) fun σ H Q ⟨B, r, O, h⟩ => by
  refine tG.of ((h.bind later_rB (R := rB)).mono ?_)
  rintro y H1 ⟨v, B1, r1, O1, s1, x1, h1⟩
  cases x1
  exact h1.ret rfl
theorem dw_and1 {a : Expr} {pos : Pos} {m : M Bool} (h : DB X W a m) : DW X W (.BoolOp .And [a] pos) m := pw_and1 h
theorem dw_or1 {a : Expr} {pos : Pos} {m : M Bool} (h : DB X W a m) : DW X W (.BoolOp .Or [a] pos) m := pw_or1 h
theorem dw_and {a b : Expr} {es : List Expr} {pos : Pos} {m n : M Bool} (h : DB X W a m) (t : DW X W (.BoolOp .And (b :: es) pos) n) : DW X W (.BoolOp .And (a :: b :: es) pos) (mAnd m n) := pw_weak (pw_and h t) fun σ H Q ⟨B, r, O, h⟩ => by
  refine tG.of ((h.bind later_rB (R := rB)).mono ?_)
  rintro y H1 ⟨v, B1, r1, O1, s1, x1, h1⟩
  cases x1
  cases y with
  | true => exact iteT (tG.of h1)
  | false => exact iteF (h1.ret rfl)
theorem dw_or {a b : Expr} {es : List Expr} {pos : Pos} {m n : M Bool} (h : DB X W a m) (t : DW X W (.BoolOp .Or (b :: es) pos) n) : DW X W (.BoolOp .Or (a :: b :: es) pos) (mOr m n) := pw_weak (pw_or h t) fun σ H Q ⟨B, r, O, h⟩ => by
  refine tG.of ((h.bind later_rB (R := rB)).mono ?_)
  rintro y H1 ⟨v, B1, r1, O1, s1, x1, h1⟩
  cases x1
  cases y with
  | true => exact iteT (h1.ret rfl)
  | false => exact iteF (tG.of h1)
theorem db_w {e : Expr} {m : M Bool} (h : DW X W e m) : DB X W e m := PW.pt h
/-- an expression that gives True or False, as a test -/
theorem db_val {e : Expr} {m : M RV} (h : DE X W e m) (he : ∀ whole, isTrue e X.env whole = (do let v ← whole; standAt e.pos; holding [v] (truthy v)) := by intro _; rfl) : DB X W e (mTst m) := pt_weak (pt_val h he) fun σ H Q ⟨B, r, O, h⟩ => by
  refine tG.of ((h.bind later_rB (R := rV (Cx.g X))).mono ?_)
  rintro y H1 ⟨v, B1, r1, O1, s1, x1, h1⟩
  exact h1.ofBool x1
def rD (G : Ct2) : Rl D V := fun _ B' _ _ _ d v => Dq G.K B' v d
/-- a result that stands still from now on -/
theorem At.froz {m : M RV} {B : Hp} {r : Ro} {O : Addr → Prop} {σ : L2.St} {H : Hp} {Q : VK} (h : At (Cx.g X) W (mFz m) (rD (Cx.g X)) B r O σ H Q) : At (Cx.g X) W m (rV (Cx.g X)) B r O σ H Q := by
  obtain ⟨c, o, r', e, p⟩ := h
  refine ⟨c, ?_⟩
  unfold mFz M.bind at e
  cases q : m r with
  | none => rw [q] at e; cases e
  | some z =>
    obtain ⟨o1, r1⟩ := z
    rw [q] at e
    refine ⟨o1, r1, rfl, ?_⟩
    cases o1 with
    | exc x => cases e; exact p
    | ok rv =>
      simp only [M.of] at e
      cases qd : rv.data with
      | none => rw [qd] at e; cases e
      | some d =>
        rw [qd] at e
        cases e
        intro B1 H1 O1 v s1 c1 b1 x1
        obtain ⟨B2, s2, c2, dp, _⟩ := c1.frozen s1 x1 qd
        exact p B2 H1 O1 v s2 c2 b1 dp
theorem At.no {α β : Type} {R : Rl α β} {B : Hp} {r : Ro} {O : Addr → Prop} {σ : L2.St} {H : Hp} {Q : β → Hp → Prop} (h : At (Cx.g X) W (M.of none) R B r O σ H Q) : False := by
  obtain ⟨c, o, r', e, p⟩ := h
  cases e
theorem bool_of {v : RV} : (∃ b, v = .val (.bool b)) ∨ ∀ b, v ≠ .val (.bool b) := by
  cases v with
  | val d => cases d with
    | bool b => exact .inl ⟨b, rfl⟩
    | _ => exact .inr fun b e => by cases e
  | new c => exact .inr fun b e => by cases e
theorem de_one {a : Expr} {op : BoolOp} {pos : Pos} {m : M RV} (h : DE X W a m) : DE X W (.BoolOp op [a] pos) m := pe_one h
theorem de_and {a b : Expr} {es : List Expr} {pos : Pos} {m n : M RV} (h : DE X W a m) (t : DE X W (.BoolOp .And (b :: es) pos) n) : DE X W (.BoolOp .And (a :: b :: es) pos) (mAndV m n) := pe_weak (pe_and h t) fun σ H Q ⟨B, r, O, h⟩ => by
  refine tG.of ((h.bind later_rV (R := rV (Cx.g X))).mono ?_)
  rintro y H1 ⟨v, B1, r1, O1, s1, x1, h1⟩
  rcases bool_of (v := v) with ⟨b, rfl⟩ | n
  · cases dp_bl x1
    cases b with
    | true => exact ⟨true, rfl, iteT (tG.of h1)⟩
    | false => exact ⟨false, rfl, iteF (h1.ret (.bl _))⟩
  · split at h1
    · exact absurd rfl (n _)
    · exact absurd rfl (n _)
    · exact h1.no.elim
theorem de_or {a b : Expr} {es : List Expr} {pos : Pos} {m n : M RV} (h : DE X W a m) (t : DE X W (.BoolOp .Or (b :: es) pos) n) : DE X W (.BoolOp .Or (a :: b :: es) pos) (mOrV m n) := pe_weak (pe_or h t) fun σ H Q ⟨B, r, O, h⟩ => by
  refine tG.of ((h.bind later_rV (R := rV (Cx.g X))).mono ?_)
  rintro y H1 ⟨v, B1, r1, O1, s1, x1, h1⟩
  rcases bool_of (v := v) with ⟨b, rfl⟩ | n
  · cases dp_bl x1
    cases b with
    | true => exact ⟨true, rfl, iteT (h1.ret (.bl _))⟩
    | false => exact ⟨false, rfl, iteF (tG.of h1)⟩
  · split at h1
    · exact absurd rfl (n _)
    · exact absurd rfl (n _)
    · exact h1.no.elim
theorem de_not {a : Expr} {pos : Pos} {m : M RV} (h : DE X W a m) : DE X W (.UnaryOp .Not a pos) (mNotV m) := pe_weak (pe_not h) fun σ H Q ⟨B, r, O, h⟩ => by
  refine tG.of ((h.bind later_rV (R := rV (Cx.g X))).mono ?_)
  rintro y H1 ⟨v, B1, r1, O1, s1, x1, h1⟩
  rcases bool_of (v := v) with ⟨b, rfl⟩ | n
  · cases dp_bl x1
    exact ⟨b, rfl, h1.ret (.bl _)⟩
  · split at h1
    · exact absurd rfl (n _)
    · exact h1.no.elim
theorem dataAll_of {K : PySem.W.Frag} {B H : Hp} : ∀ {as : List Rs} {ds : List D} {vs : List V}, dataAll as = some ds → Paired (RsR K B H) as vs → DqAll K B vs ds
  | [], _, _, h, p => by cases h; cases p; exact .nil
  | .fz d :: as, ds, _, h, p => by
    cases p with
    | cons p1 p =>
      cases q : dataAll as with
      | none => simp only [dataAll, q] at h; cases h
      | some es =>
        simp only [dataAll, q] at h
        cases h
        exact .cons p1 (dataAll_of q p)
  | .ow c :: as, ds, _, h, p => by cases h
theorem At.ops {ms : List (M AV)} {g : List Rs → Option RV} {B : Hp} {r : Ro} {O : Addr → Prop} {σ : L2.St} {H : Hp} {Q : VK} (h : At (Cx.g X) W (mOp g ms) (rV (Cx.g X)) B r O σ H Q) :
    At (Cx.g X) W (oL ms) (rL (Cx.g X)) B r O σ H fun vs H1 => ∃ B1 xs z, Same B1 H1 ∧ Paired (RsR X.K B1 H1) xs vs ∧ g xs = some z ∧ ∀ H' v, Alc X.K B1 H1 H' z v → Q v H' := by
  refine (h.bind later_rV (R := rL (Cx.g X))).mono ?_
  rintro vs H1 ⟨as, B1, r1, O1, s1, x1, h1⟩
  obtain ⟨xs, z, sb, p, hg, q⟩ := h1.fin x1
  exact ⟨B1, xs, z, sb, p, hg, q⟩
theorem de_tup {es : List Expr} {x1 : Nat} {pos : Pos} {ms : List (M AV)} (h : DA X W es (oL ms)) : DE X W (.Tuple es x1 pos) (mOp gTup ms) := pe_weak (fe_tup h) fun σ H Q ⟨B, r, O, h⟩ => by
  refine tG.of (h.ops.mono ?_)
  rintro vs H1 ⟨B1, xs, z, sb, p, hg, q⟩
  unfold gTup at hg
  obtain ⟨ds, e1, e2⟩ := Option.bind_eq_some_iff.mp hg
  split at e2
  · rename_i hl
    cases e2
    have d := dataAll_of e1 p
    exact ⟨by rw [d.length, ← line_eq]; exact hl, alc_tup q d⟩
  · cases e2
theorem de_lst {es : List Expr} {pos : Pos} {ms : List (M AV)} (h : DA X W es (oL ms)) : DE X W (.List es pos) (mOp gLst ms) := pe_weak (pe_lst h) fun σ H Q ⟨B, r, O, h⟩ => by
  refine tG.of (h.ops.mono ?_)
  rintro vs H1 ⟨B1, xs, z, sb, p, hg, q⟩
  unfold gLst at hg
  obtain ⟨ds, e1, e2⟩ := Option.bind_eq_some_iff.mp hg
  split at e2
  · rename_i hl
    cases e2
    have d := dataAll_of e1 p
    exact ⟨by rw [d.length, ← line_eq]; exact hl, alc_lst q d⟩
  · cases e2
theorem de_cb {id : String} {g : List Rs → Option RV} {x : Str} {p pos : Pos} {e : Expr} {es : List Expr} {ms : List (M AV)} (hc : CallD X (.builtin id) g) (hg : Gl X x) (hm : X.mg x = none) (hv : bootBuiltins x = some (.builtin id)) (ha : DA X W (e :: es) (oL ms))
    (hn : x ≠ "__name__" := by decide) (hdb : (x == ("__debug__" : Str)) = false := by decide)
    (he : starEach (e :: es) X.env = (false, eval e X.env) :: starEach es X.env := by rfl) (hpl : (backTo pos (starEach es X.env)).any (·.1) = false := by rfl) : DE X W (.Call (.Name x p) (e :: es) [] pos) (mOp g ms) :=
  pe_weak (pe_callB hc hg hm hv ha hn hdb he hpl) fun σ H Q ⟨B, r, O, h⟩ => tG.of (h.ops)
theorem de_ct {T : String} {g : List Rs → Option RV} {x : Str} {p pos : Pos} {e : Expr} {es : List Expr} {ms : List (M AV)} (hc : CallD X (.type T) g) (hg : Gl X x) (hm : X.mg x = none) (hv : bootBuiltins x = some (.type T)) (ha : DA X W (e :: es) (oL ms))
    (hn : x ≠ "__name__" := by decide) (hdb : (x == ("__debug__" : Str)) = false := by decide)
    (he : starEach (e :: es) X.env = (false, eval e X.env) :: starEach es X.env := by rfl) (hpl : (backTo pos (starEach es X.env)).any (·.1) = false := by rfl) : DE X W (.Call (.Name x p) (e :: es) [] pos) (mOp g ms) :=
  pe_weak (pe_callTy hc hg hm hv ha hn hdb he hpl) fun σ H Q ⟨B, r, O, h⟩ => tG.of (h.ops)
end
end DL
end

section
namespace DL
open PySem
/-- what a def does: its arguments (an owned one is lent); the answer, the arguments behind it -/
abbrev Sem := List Rs → Option (EO RV × List Rs)
def toSl : Rs → Sl
  | .fz d => .frz false d
  | .ow c => .own true c
def backSl (b : Bool) : Rs → Sl
  | .fz d => .frz b d
  | .ow c => .own b c
def exitSl : Rs → Rs → Sl
  | .fz d, _ => .frz false d
  | .ow _, y => backSl true y
def ownIx : List AV → List Rs → List Nat
  | .slot i :: as, .ow _ :: xs => i :: ownIx as xs
  | _ :: as, _ :: xs => ownIx as xs
  | _, _ => []
def put1 (r : Ro) (i : Nat) (y : Rs) : Ro := match r[i]? with
  | some (.own b _) => r.set i (backSl b y)
  | _ => r
def putBack : Ro → List AV → List Rs → List Rs → Ro
  | r, .slot i :: as, .ow _ :: xs, y :: ys => putBack (put1 r i y) as xs ys
  | r, _ :: as, _ :: xs, _ :: ys => putBack r as xs ys
  | r, _, _, _ => r
def mCall (f : Sem) (ms : List (M AV)) : M RV := (oL ms).bind fun as => fun r => match looks r as with
  | none => none
  | some xs => if (ownIx as xs).Nodup ∧ (ownIx as xs).all (noAl r) = true then match f xs with
      | some (o, ys) => if ys.length = xs.length then some (o, putBack r as xs ys) else none
      | none => none
    else none
/-- a statement's end -/
inductive SO where
  | nx
  | ret (v : RV)
  /-- what slot i holds, with all that it owns -/
  | rets (i : Nat)
  | brk
  | cnt
  | exc (x : Exn)
def S := Ro → Option (SO × Ro)
def sNx : S := fun r => some (.nx, r)
def sSeq (a b : S) : S := fun r => match a r with
  | some (.nx, r') => b r'
  | z => z
def sEx {α : Type} (m : M α) (k : α → S) : S := fun r => match m r with
  | none => none
  | some (.ok a, r') => k a r'
  | some (.exc x, r') => some (.exc x, r')
def sRet (m : M RV) : S := sEx m fun v r => some (.ret v, r)
def sIf (t : M Bool) (a b : S) : S := sEx t fun c => if c then a else b
def sDrop (m : M RV) : S := sEx m fun _ => sNx
/-- the slot i gets a result; a lent parameter's slot can't be stored to -/
def putSl (i : Nat) (v : RV) : S := fun r => match r[i]? with
  | none => none
  | some x => if pinnedB x then none else match v with
      | .val d => some (.nx, r.set i (.frz false d))
      | .new (.ll rows) => if noAl r i then some (.nx, r.set i (.own false (.ll rows))) else none
      | .new c => some (.nx, r.set i (.own false c))
where pinnedB : Sl → Bool
  | .frz b _ => b
  | .own b _ => b
  | .non => false
  | .al _ _ => false
def sSet (i : Nat) (m : M RV) : S := sEx m (putSl i)
def outs : List Rs → Nat → Ro → List Rs
  | [], _, _ => []
  | .fz d :: xs, k, r => .fz d :: outs xs (k + 1) r
  | .ow c :: xs, k, r => (match r[k]? with
      | some (.own _ c') => .ow c'
      | some (.frz _ d) => .fz d
      | _ => .ow c) :: outs xs (k + 1) r
def allFz : List Rs → Bool
  | [] => true
  | .fz _ :: xs => allFz xs
  | .ow _ :: _ => false
/-- an object handed on: only where no object was lent -/
def handOn (xs : List Rs) (i : Nat) (r : Ro) : Option (EO RV × List Rs) := match r[i]? with
  | some (.own false c) => if allFz xs = true then some (.ok (.new c), outs xs 0 (r.set i .non)) else none
  | _ => none
/-- a def of n parameters and N names by its body -/
def defSem (n N : Nat) (body : S) : Sem := fun xs => if xs.length = n then match body (xs.map toSl ++ List.replicate (N - n) .non) with
    | some (.ret v, r) => some (.ok v, outs xs 0 r)
    | some (.rets i, r) => handOn xs i r
    | some (.nx, r) => some (.ok (.val .none), outs xs 0 r)
    | some (.exc x, r) => some (.exc x, outs xs 0 r)
    | _ => none
  else none
end DL
end

section
namespace DL
open PySem PySem.Spec PyProof.Rows L2
theorem put1_ne {r : Ro} {i j : Nat} {y : Rs} (h : j ≠ i) : (put1 r i y)[j]? = r[j]? := by
  unfold put1
  split
  · exact List.getElem?_set_ne (Ne.symm h)
  · rfl
theorem put1_at {r : Ro} {i : Nat} {y : Rs} {b : Bool} {c : Ct} (h : r[i]? = some (Sl.own b c)) : (put1 r i y)[i]? = some (backSl b y) := by
  unfold put1
  rw [h]
  obtain ⟨hl, _⟩ := List.getElem?_eq_some_iff.mp h
  exact List.getElem?_set_self hl
theorem put1_len {r : Ro} {i : Nat} {y : Rs} : (put1 r i y).length = r.length := by
  unfold put1
  split <;> simp
theorem ownIx_mem : ∀ {as : List AV} {xs : List Rs} {k i : Nat} {c : Ct}, as[k]? = some (AV.slot i) → xs[k]? = some (Rs.ow c) → i ∈ ownIx as xs
  | [], _, _, _, _, h, _ => by simp at h
  | _ :: _, [], _, _, _, _, h => by simp at h
  | a :: as, x :: xs, 0, i, c, h, g => by
    simp at h g
    subst h g
    simp [ownIx]
  | a :: as, x :: xs, k + 1, i, c, h, g => by
    have := ownIx_mem (as := as) (xs := xs) (k := k) (i := i) (c := c) (by simpa using h) (by simpa using g)
    cases a <;> cases x <;> simp [ownIx, this]
theorem ownIx_of : ∀ {as : List AV} {xs : List Rs} {i : Nat}, i ∈ ownIx as xs → ∃ (k : Nat) (c : Ct), as[k]? = some (AV.slot i) ∧ xs[k]? = some (Rs.ow c)
  | [], _, _, h => by simp [ownIx] at h
  | a :: as, [], _, h => by cases a <;> simp [ownIx] at h
  | a :: as, x :: xs, i, h => by
    have rc : i ∈ ownIx as xs → ∃ (k : Nat) (c : Ct), (a :: as)[k]? = some (AV.slot i) ∧ (x :: xs)[k]? = some (Rs.ow c) := fun h => by
      obtain ⟨k, c, h1, h2⟩ := ownIx_of h
      exact ⟨k + 1, c, by simpa using h1, by simpa using h2⟩
    cases a with
    | val d => exact rc (by cases x <;> simpa [ownIx] using h)
    | slot j =>
      cases x with
      | fz d => exact rc (by simpa [ownIx] using h)
      | ow c =>
        simp only [ownIx, List.mem_cons] at h
        rcases h with rfl | h
        · exact ⟨0, c, rfl, rfl⟩
        · exact rc h
theorem putBack_len : ∀ {as : List AV} {xs ys : List Rs} {r : Ro}, (putBack r as xs ys).length = r.length
  | [], _, _, r => by simp [putBack]
  | a :: as, [], _, r => by cases a <;> simp [putBack]
  | a :: as, x :: xs, [], r => by cases a <;> cases x <;> simp [putBack]
  | a :: as, x :: xs, y :: ys, r => by
    cases a <;> cases x <;> simp only [putBack] <;> rw [putBack_len] <;> exact put1_len
theorem putBack_out : ∀ {as : List AV} {xs ys : List Rs} {r : Ro} {j : Nat}, j ∉ ownIx as xs → (putBack r as xs ys)[j]? = r[j]?
  | [], _, _, r, j, _ => by simp [putBack]
  | a :: as, [], _, r, j, _ => by cases a <;> simp [putBack]
  | a :: as, x :: xs, [], r, j, _ => by cases a <;> cases x <;> simp [putBack]
  | a :: as, x :: xs, y :: ys, r, j, h => by
    cases a with
    | val d => cases x <;> exact putBack_out (as := as) (xs := xs) (ys := ys) (by simpa [ownIx] using h)
    | slot i =>
      cases x with
      | fz d => exact putBack_out (as := as) (xs := xs) (ys := ys) (by simpa [ownIx] using h)
      | ow c =>
        simp only [ownIx, List.mem_cons, not_or] at h
        show (putBack (put1 r i y) as xs ys)[j]? = _
        rw [putBack_out (as := as) (xs := xs) (ys := ys) h.2, put1_ne h.1]
theorem putBack_in : ∀ {as : List AV} {xs ys : List Rs} {r : Ro} {k i : Nat} {c c0 : Ct} {y : Rs} {b : Bool}, (ownIx as xs).Nodup → as[k]? = some (AV.slot i) → xs[k]? = some (Rs.ow c) → ys[k]? = some y → r[i]? = some (Sl.own b c0) →
    (putBack r as xs ys)[i]? = some (backSl b y)
  | [], _, _, _, _, _, _, _, _, _, _, h, _, _, _ => by simp at h
  | _ :: _, [], _, _, _, _, _, _, _, _, _, _, h, _, _ => by simp at h
  | _ :: _, _ :: _, [], _, _, _, _, _, _, _, _, _, _, h, _ => by simp at h
  | a :: as, x :: xs, z :: ys, r, 0, i, c, c0, y, b, nd, h1, h2, h3, h4 => by
    simp at h1 h2 h3
    subst h1 h2 h3
    simp only [ownIx, List.nodup_cons] at nd
    show (putBack (put1 r i z) as xs ys)[i]? = _
    rw [putBack_out nd.1]
    exact put1_at h4
  | a :: as, x :: xs, z :: ys, r, k + 1, i, c, c0, y, b, nd, h1, h2, h3, h4 => by
    have h1' : as[k]? = some (AV.slot i) := by simpa using h1
    have h2' : xs[k]? = some (Rs.ow c) := by simpa using h2
    have h3' : ys[k]? = some y := by simpa using h3
    cases a with
    | val d => cases x <;> exact putBack_in (as := as) (xs := xs) (ys := ys) (by simpa [ownIx] using nd) h1' h2' h3' h4
    | slot j =>
      cases x with
      | fz d => exact putBack_in (as := as) (xs := xs) (ys := ys) (by simpa [ownIx] using nd) h1' h2' h3' h4
      | ow c2 =>
        simp only [ownIx, List.nodup_cons] at nd
        have hne : i ≠ j := fun e => nd.1 (e ▸ ownIx_mem h1' h2')
        exact putBack_in (r := put1 r j z) (as := as) (xs := xs) (ys := ys) nd.2 h1' h2' h3' (by rw [put1_ne hne]; exact h4)
theorem looks_get {r : Ro} : ∀ {as : List AV} {xs : List Rs} {k : Nat} {x : Rs}, looks r as = some xs → xs[k]? = some x → ∃ a, as[k]? = some a ∧ look r a = some x
  | [], xs, k, x, h, e => by cases h; simp at e
  | a :: as, xs, k, x, h, e => by
    simp only [looks] at h
    split at h
    · rename_i y ys h1 h2
      cases h
      cases k with
      | zero => simp at e; subst e; exact ⟨a, rfl, h1⟩
      | succ k =>
        obtain ⟨b, g1, g2⟩ := looks_get (k := k) h2 (by simpa using e)
        exact ⟨b, by simpa using g1, g2⟩
    · cases h
theorem look_ow {r : Ro} {a : AV} {c : Ct} (h : look r a = some (.ow c)) : ∃ i b, a = .slot i ∧ r[i]? = some (Sl.own b c) := by
  cases a with
  | val d => cases h
  | slot i =>
    simp only [look] at h
    split at h
    · cases h
    · rename_i b c' q; cases h; exact ⟨i, b, rfl, q⟩
    · cases h
theorem paired_get {α β : Type} {F : α → β → Prop} : ∀ {l : List α} {m : List β} {k : Nat} {x : α}, Paired F l m → l[k]? = some x → ∃ y, m[k]? = some y ∧ F x y
  | _, _, _, _, .nil, e => by simp at e
  | _, _, 0, x, .cons h t, e => by simp at e; subst e; exact ⟨_, rfl, h⟩
  | _, _, k + 1, x, .cons h t, e => by
    obtain ⟨y, h1, h2⟩ := paired_get (k := k) t (by simpa using e)
    exact ⟨y, by simpa using h1, h2⟩
section
variable {K : PySem.W.Frag} {B H B' H' : Hp} {σ : L2.St} {r : Ro} {O Oc' : Addr → Prop} {as : List AV} {xs ys : List Rs} {vs : List V}
/-- what is lent -/
def lent (K : PySem.W.Frag) (B H : Hp) (O : Addr → Prop) (xs : List Rs) (vs : List V) : Addr → Prop := fun a => O a ∧ ∃ (k : Nat) (c : Ct) (l : Addr) (F : List Addr), xs[k]? = some (Rs.ow c) ∧ vs[k]? = some (V.ref l) ∧ OwnR K B H c l F ∧ a ∈ F
/-- the slots at a callee's entry -/
theorem call_in (c : Con K B H σ r O) (lk : looks r as = some xs) (pv : Paired (AvR K B σ) as vs) (nd : (ownIx as xs).Nodup) : Con K B H (vs.map some) (xs.map toSl) (lent K B H O xs vs) := by
  have px := c.looks lk pv
  have own : ∀ (k : Nat) b ct, (xs.map toSl)[k]? = some (Sl.own b ct) → ∃ i b0 l F, as[k]? = some (AV.slot i) ∧ xs[k]? = some (Rs.ow ct) ∧ r[i]? = some (Sl.own b0 ct) ∧ σ[i]? = some (some (V.ref l)) ∧ vs[k]? = some (V.ref l) ∧ OwnR K B H ct l F ∧ ∀ a ∈ F, O a := by
    intro k b ct e
    rw [List.getElem?_map] at e
    cases q : xs[k]? with
    | none => rw [q] at e; cases e
    | some x =>
      rw [q] at e
      cases x with
      | fz d => cases e
      | ow c2 =>
        cases e
        obtain ⟨a, h1, h2⟩ := looks_get lk q
        obtain ⟨i, b0, rfl, h3⟩ := look_ow h2
        obtain ⟨l, F, g1, g2, g3⟩ := c.own i b0 _ h3
        obtain ⟨v, e1, e2⟩ := paired_get pv h1
        rw [show σ[i]? = some (some v) from e2] at g1; cases g1
        exact ⟨i, b0, l, F, h1, rfl, h3, e2, e1, g2, g3⟩
  refine ⟨⟨c.sub, fun a h => c.off a h.1, fun a h => c.liv a h.1, by rw [List.length_map, List.length_map, px.length], fun k b d e => ?_, fun k b ct e => ?_, fun k j b c1 b' c2 l l' F F' ne e1 e2 s1 s2 o1 o2 => ?_⟩, fun i j k h => ?_⟩
  · rw [List.getElem?_map] at e
    cases q : xs[k]? with
    | none => rw [q] at e; cases e
    | some x =>
      rw [q] at e
      cases x with
      | ow c2 => cases e
      | fz d2 =>
        cases e
        obtain ⟨v, e1, e2⟩ := paired_get px q
        exact ⟨v, by rw [List.getElem?_map, e1]; rfl, e2⟩
  · obtain ⟨i, b0, l, F, h1, h2, h3, h4, h5, h6, h7⟩ := own k b ct e
    exact ⟨l, F, by rw [List.getElem?_map, h5]; rfl, h6, fun a ha => ⟨h7 a ha, k, ct, l, F, h2, h5, h6, ha⟩⟩
  · obtain ⟨i, b0, m, G, h1, h2, h3, h4, h5, h6, h7⟩ := own k b c1 e1
    obtain ⟨i', b0', m', G', h1', h2', h3', h4', h5', h6', h7'⟩ := own j b' c2 e2
    rw [List.getElem?_map, h5] at s1; cases s1
    rw [List.getElem?_map, h5'] at s2; cases s2
    refine c.sep i i' b0 c1 b0' c2 _ _ F F' (fun e => ?_) h3 h3' h4 h4' o1 o2
    subst e
    -- one slot at two places
    exact absurd nd (ownIx_two ne h1 h1' h2 h2')
  · rw [List.getElem?_map] at h
    cases q : xs[i]? with
    | none => rw [q] at h; cases h
    | some x => rw [q] at h; cases x <;> cases h
where
  ownIx_two : ∀ {as : List AV} {xs : List Rs} {k j i : Nat} {c c' : Ct}, k ≠ j → as[k]? = some (AV.slot i) → as[j]? = some (AV.slot i) → xs[k]? = some (Rs.ow c) → xs[j]? = some (Rs.ow c') → ¬ (ownIx as xs).Nodup
    | [], _, _, _, _, _, _, _, h, _, _, _ => by simp at h
    | _ :: _, [], _, _, _, _, _, _, _, _, h, _ => by simp at h
    | a :: as, x :: xs, 0, 0, _, _, _, n, _, _, _, _ => absurd rfl n
    | a :: as, x :: xs, 0, j + 1, i, c, c', _, h1, h2, h3, h4 => by
      simp at h1 h3
      subst h1 h3
      have := ownIx_mem (as := as) (xs := xs) (k := j) (i := i) (c := c') (by simpa using h2) (by simpa using h4)
      simp [ownIx, this]
    | a :: as, x :: xs, k + 1, 0, i, c, c', _, h1, h2, h3, h4 => by
      simp at h2 h4
      subst h2 h4
      have := ownIx_mem (as := as) (xs := xs) (k := k) (i := i) (c := c) (by simpa using h1) (by simpa using h3)
      simp [ownIx, this]
    | a :: as, x :: xs, k + 1, j + 1, i, c, c', n, h1, h2, h3, h4 => by
      have := ownIx_two (as := as) (xs := xs) (k := k) (j := j) (i := i) (c := c) (c' := c') (fun e => n (by rw [e])) (by simpa using h1) (by simpa using h2) (by simpa using h3) (by simpa using h4)
      cases a <;> cases x <;> simp_all [ownIx]
/-- the slots behind a call -/
theorem call_out (c : Con K B H σ r O) (lk : looks r as = some xs) (pv : Paired (AvR K B σ) as vs) (nd : (ownIx as xs).Nodup) (na : (ownIx as xs).all (noAl r) = true) (hl : ys.length = xs.length) (s : Step B H (lent K B H O xs vs) B' H' Oc')
    (c' : Con K B' H' (vs.map some) (List.zipWith exitSl xs ys) Oc') :
    ∃ O', Step B H O B' H' O' ∧ Con K B' H' σ (putBack r as xs ys) O' ∧ Bor r σ (putBack r as xs ys) σ ∧ ∀ a, O' a → O a ∨ Oc' a := by
  have px := c.looks lk pv
  -- a slot that was lent
  have back : ∀ (i : Nat), i ∈ ownIx as xs → ∃ (k : Nat) (ct : Ct) (b : Bool) (y : Rs) (l : Addr), as[k]? = some (AV.slot i) ∧ xs[k]? = some (Rs.ow ct) ∧ r[i]? = some (Sl.own b ct) ∧ ys[k]? = some y ∧ vs[k]? = some (V.ref l) ∧ σ[i]? = some (some (V.ref l)) ∧ (putBack r as xs ys)[i]? = some (backSl b y) ∧ (List.zipWith exitSl xs ys)[k]? = some (backSl true y) := by
    intro i hi
    obtain ⟨k, ct, h1, h2⟩ := ownIx_of hi
    obtain ⟨a, g1, g2⟩ := looks_get lk h2
    rw [h1] at g1; cases g1
    obtain ⟨i', b, e, h3⟩ := look_ow g2
    cases e
    obtain ⟨l, F, q1, q2, q3⟩ := c.own i b ct h3
    obtain ⟨v, e1, e2⟩ := paired_get pv h1
    rw [show σ[i]? = some (some v) from e2] at q1; cases q1
    have hk : k < ys.length := by rw [hl]; exact (List.getElem?_eq_some_iff.mp h2).1
    refine ⟨k, ct, b, ys[k], l, h1, h2, h3, List.getElem?_eq_getElem hk, e1, e2, putBack_in nd h1 h2 (List.getElem?_eq_getElem hk) h3, ?_⟩
    rw [List.getElem?_zipWith, h2, List.getElem?_eq_getElem hk]
    rfl
  -- what was owned and not lent
  have kept : ∀ (i : Nat) b ct l F, i ∉ ownIx as xs → r[i]? = some (Sl.own b ct) → σ[i]? = some (some (V.ref l)) → OwnR K B H ct l F → ∀ a ∈ F, O a ∧ ¬ lent K B H O xs vs a ∧ H' a = H a ∧ B' a = none := by
    intro i b ct l F hi e hs o a ha
    obtain ⟨l0, F0, q1, q2, q3⟩ := c.own i b ct e
    rw [hs] at q1; cases q1
    rw [ownR_uniq o q2 fun _ _ => rfl] at q3
    have nl : ¬ lent K B H O xs vs a := fun ⟨_, k, c2, l2, F2, x1, x2, x3, x4⟩ => by
      obtain ⟨a2, g1, g2⟩ := looks_get lk x1
      obtain ⟨j, b2, e2, h3⟩ := look_ow g2
      subst e2
      obtain ⟨v, e1, e2⟩ := paired_get pv g1
      rw [x2] at e1; cases e1
      exact c.sep i j b ct b2 c2 l l2 F F2 (fun z => hi (z ▸ ownIx_mem g1 x1)) e h3 hs e2 o x3 a ha x4
    have oa := q3 a ha
    have ha0 := c.liv a oa
    refine ⟨oa, nl, ?_, s.nB a ha0 nl (c.off a oa)⟩
    cases q : H a with
    | none => exact absurd q ha0
    | some x => exact s.keep a x q nl
  have sB := s.sB
  refine ⟨fun a => (O a ∨ Oc' a) ∧ B' a = none ∧ H' a ≠ none, ⟨sB, fun a o h n => s.keep a o h fun z => n z.1, s.live, fun a h n b => s.nB a h (fun z => n z.1) b, fun a h => ?_⟩, ⟨⟨c'.sub, fun a h => h.2.1, fun a h => h.2.2, by rw [putBack_len, c.len], fun i b d e => ?_, fun i b ct e => ?_, fun i j b c1 b' c2 l l' F F' ne e1 e2 s1 s2 o1 o2 => ?_⟩, fun i j k h b rows l as2 h1 h2 h3 => ?_⟩, fun i x e p => ⟨?_, rfl⟩, fun a h => h.1⟩
  · rcases h.1 with h | h
    · exact .inl h
    · exact (s.nO a h).elim (fun z => .inl z.1) .inr
  · by_cases hi : i ∈ ownIx as xs
    · obtain ⟨k, ct, b0, y, l, h1, h2, h3, h4, h5, h6, h7, h8⟩ := back i hi
      rw [h7] at e
      cases y with
      | ow _ => cases e
      | fz d2 =>
        cases e
        obtain ⟨v, g1, g2⟩ := c'.frz k true d h8
        rw [List.getElem?_map, h5] at g1; cases g1
        exact ⟨_, h6, g2⟩
    · rw [putBack_out hi] at e
      obtain ⟨v, g1, g2⟩ := c.frz i b d e
      exact ⟨v, g1, dp_same sB g2⟩
  · by_cases hi : i ∈ ownIx as xs
    · obtain ⟨k, ct0, b0, y, l, h1, h2, h3, h4, h5, h6, h7, h8⟩ := back i hi
      rw [h7] at e
      cases y with
      | fz _ => cases e
      | ow c2 =>
        cases e
        obtain ⟨l2, F, g1, g2, g3⟩ := c'.own k true _ h8
        rw [List.getElem?_map, h5] at g1; cases g1
        exact ⟨_, F, h6, g2, fun a ha => ⟨.inr (g3 a ha), c'.off a (g3 a ha), c'.liv a (g3 a ha)⟩⟩
    · rw [putBack_out hi] at e
      obtain ⟨l, F, g1, g2, g3⟩ := c.own i b ct e
      have kp := kept i b ct l F hi e g1 g2
      exact ⟨l, F, g1, ownR_same g2 sB fun a ha => (kp a ha).2.2.1, fun a ha => ⟨.inl (kp a ha).1, (kp a ha).2.2.2, by rw [(kp a ha).2.2.1]; exact c.liv a (kp a ha).1⟩⟩
  · -- apart
    have mixed : ∀ (i j : Nat) b c1 b' c2 l l' F F', i ∈ ownIx as xs → j ∉ ownIx as xs → (putBack r as xs ys)[i]? = some (Sl.own b c1) → (putBack r as xs ys)[j]? = some (Sl.own b' c2) → σ[i]? = some (some (V.ref l)) → σ[j]? = some (some (V.ref l')) →
        OwnR K B' H' c1 l F → OwnR K B' H' c2 l' F' → ∀ a ∈ F, a ∉ F' := by
      intro i j b c1 b' c2 l l' F F' hi hj e1 e2 s1 s2 o1 o2 a ha hb
      obtain ⟨k, ct0, b0, y, l0, h1, h2, h3, h4, h5, h6, h7, h8⟩ := back i hi
      rw [h7] at e1
      cases y with
      | fz _ => cases e1
      | ow c3 =>
        cases e1
        obtain ⟨l2, F2, g1, g2, g3⟩ := c'.own k true _ h8
        rw [List.getElem?_map, h5] at g1; cases g1
        rw [h6] at s1; cases s1
        rw [ownR_uniq o1 g2 fun _ _ => rfl] at g3
        rw [putBack_out hj] at e2
        obtain ⟨l3, F3, q1, q2, q3⟩ := c.own j b' c2 e2
        rw [s2] at q1; cases q1
        have kp := kept j b' c2 _ F3 hj e2 s2 q2
        rw [ownR_uniq q2 o2 fun a ha => (kp a ha).2.2.1] at hb
        rcases s.nO a (g3 a ha) with z | z
        · exact (kp a hb).2.1 z
        · exact c.liv a (kp a hb).1 z
    by_cases hi : i ∈ ownIx as xs
    · by_cases hj : j ∈ ownIx as xs
      · obtain ⟨k, ct0, b0, y, l0, h1, h2, h3, h4, h5, h6, h7, h8⟩ := back i hi
        obtain ⟨k', ct0', b0', y', l0', h1', h2', h3', h4', h5', h6', h7', h8'⟩ := back j hj
        rw [h7] at e1
        rw [h7'] at e2
        rw [h6] at s1; cases s1
        rw [h6'] at s2; cases s2
        cases y with
        | fz _ => cases e1
        | ow c3 =>
          cases y' with
          | fz _ => cases e2
          | ow c3' =>
            cases e1
            cases e2
            refine c'.sep k k' true _ true _ _ _ F F' (fun z => ?_) h8 h8' (by rw [List.getElem?_map, h5]; rfl) (by rw [List.getElem?_map, h5']; rfl) o1 o2
            subst z
            rw [h1] at h1'; cases h1'
            exact ne rfl
      · exact mixed i j b c1 b' c2 l l' F F' hi hj e1 e2 s1 s2 o1 o2
    · by_cases hj : j ∈ ownIx as xs
      · exact fun a ha hb => mixed j i b' c2 b c1 l' l F' F hj hi e2 e1 s2 s1 o2 o1 a hb ha
      · rw [putBack_out hi] at e1
        rw [putBack_out hj] at e2
        obtain ⟨l3, F3, q1, q2, q3⟩ := c.own i b c1 e1
        rw [s1] at q1; cases q1
        obtain ⟨l4, F4, q1', q2', q3'⟩ := c.own j b' c2 e2
        rw [s2] at q1'; cases q1'
        have kp := kept i b c1 _ F3 hi e1 s1 q2
        have kp' := kept j b' c2 _ F4 hj e2 s2 q2'
        rw [ownR_uniq q2 o1 fun a ha => (kp a ha).2.2.1, ownR_uniq q2' o2 fun a ha => (kp' a ha).2.2.1]
        exact c.sep i j b c1 b' c2 _ _ _ _ ne e1 e2 s1 s2 q2 q2'
  · -- a slot that looks into another one
    have hi : i ∉ ownIx as xs := fun hi => by
      obtain ⟨k', ct, b0, y, l0, g1, g2, g3, g4, g5, g6, g7, g8⟩ := back i hi
      rw [g7] at h
      cases y <;> cases h
    rw [putBack_out hi] at h
    have hj : j ∉ ownIx as xs := fun hj => absurd h (noAl_of (List.all_eq_true.mp na j hj))
    rw [putBack_out hj] at h1
    obtain ⟨l0, F, g1, g2, g3⟩ := c.own j b _ h1
    rw [h2] at g1; cases g1
    rw [(kept j b _ _ F hj h1 h2 g2 _ (ownR_mem g2)).2.2.1] at h3
    exact c.al i j k h b rows _ as2 h1 h2 h3
  · -- a lent parameter of ours
    by_cases hi : i ∈ ownIx as xs
    · obtain ⟨k, ct0, b0, y, l0, h1, h2, h3, h4, h5, h6, h7, h8⟩ := back i hi
      rw [h3] at e; cases e
      have p : b0 = true := p
      subst p
      exact ⟨_, h7, by cases y <;> rfl⟩
    · exact ⟨x, by rw [putBack_out hi]; exact e, p⟩
end
/-- what a def promises, by its meaning -/
def spD (K : PySem.W.Frag) (mg : Str → Option Value) (f : Sem) (n : Nat) : Sp := fun vs H Q E => vs.length = n ∧ ∃ B O xs, Con K B H (vs.map some) (xs.map toSl) O ∧ ∃ o ys, f xs = some (o, ys) ∧ ys.length = xs.length ∧ match o with
  | .ok rv => ∀ B' H' O' v, Step B H O B' H' O' → Con K B' H' (vs.map some) (List.zipWith exitSl xs ys) O' → RvR K H B' H' O' rv v → Q v H'
  | .exc x => ∀ B' H' O' c dx, Step B H O B' H' O' → Con K B' H' (vs.map some) (List.zipWith exitSl xs ys) O' → XnR K mg x c dx H B' H' O' → E c dx H'
section
variable {X : Cx} {W : WX}
theorem de_call {k : Nat} {f : Addr} {fd : FuncData} {ps : List Str} {sem : Sem} {x : Str} {p pos : Pos} {e : Expr} {es : List Expr} {ms : List (M AV)} (tk : L2N.Takes X W)
    (F : FnOk X.prog X.w X.K X.mg X.base (L2N.CX X.prog X.w) k f fd ps (spD X.K X.mg sem ps.length)) (hr : Room k X.A) (hg : Gl X x) (hm : X.mg x = some (.ref f)) (hk : PySem.W.keepIn X.K (.ref f) = true) (hb : Binds X.K fd ps [])
    (hn : ms.length = ps.length) (ha : DA X W (e :: es) (oL ms)) (hdb : (x == ("__debug__" : Str)) = false := by decide) (he : starEach (e :: es) X.env = (false, eval e X.env) :: starEach es X.env := by rfl) (hpl : (backTo pos (starEach es X.env)).any (·.1) = false := by rfl) :
    DE X W (.Call (.Name x p) (e :: es) [] pos) (mCall sem ms) := pe_weak (pe_callS F hr hg hm hk hb (fun σ => L2N.passAt tk σ) ha hdb he hpl) fun σ H Q ⟨B, r, O, h⟩ => by
  have olen : ∀ (ms : List (M AV)) (r : Ro) as r', oL ms r = some (.ok as, r') → as.length = ms.length := by
    intro ms
    induction ms with
    | nil => intro r as r' e; cases e; rfl
    | cons m ms ih =>
      intro r as r' e
      unfold oL M.bind at e
      split at e
      · cases e
      · rename_i a r1 q
        simp only [M.bind] at e
        split at e
        · cases e
        · rename_i as2 r2 q2
          cases e
          rw [List.length_cons, ih _ _ _ q2, List.length_cons]
        · cases e
      · cases e
  obtain ⟨c0, o0, r0, e0, p0⟩ := h
  have hlen : ∀ as r1, oL ms r = some (.ok as, r1) → as.length = ps.length := fun as r1 q => (olen ms r as r1 q).trans hn
  have h : At (Cx.g X) W (mCall sem ms) (rV (Cx.g X)) B r O σ H Q := ⟨c0, o0, r0, e0, p0⟩
  refine ⟨B, r, O, c0, ?_⟩
  unfold mCall M.bind at e0
  cases q : oL ms r with
  | none => rw [q] at e0; cases e0
  | some z =>
    obtain ⟨o1, r1⟩ := z
    rw [q] at e0
    refine ⟨o1, r1, rfl, ?_⟩
    cases o1 with
    | exc x => cases e0; exact p0
    | ok as =>
      intro B1 H1 O1 vs s1 c1 b1 x1
      simp only at e0
      cases q2 : looks r1 as with
      | none => rw [q2] at e0; cases e0
      | some xs =>
        rw [q2] at e0
        simp only at e0
        split at e0
        · rename_i nd
          cases q3 : sem xs with
          | none => rw [q3] at e0; cases e0
          | some z3 =>
            obtain ⟨o3, ys⟩ := z3
            rw [q3] at e0
            simp only at e0
            split at e0
            · rename_i hl
              cases e0
              have x1 : Paired (AvR X.K B1 σ) as vs := x1
              refine ⟨by rw [← x1.length]; exact hlen as r1 q, B1, lent X.K B1 H1 O1 xs vs, xs, call_in c1 q2 x1 nd.1, o0, ys, q3, hl, ?_⟩
              cases o0 with
              | ok rv =>
                intro B' H' O' v s2 c2 x2
                obtain ⟨O2, s3, c3, b3, ho⟩ := call_out c1 q2 x1 nd.1 nd.2 hl s2 c2
                refine p0 B' H' O2 v (s1.trans s3) c3 (b1.trans b3) (later_rV H H1 B' H' O2 σ rv v s1.live ?_)
                cases rv with
                | val d => exact x2
                | new ct =>
                  obtain ⟨l, F, e1, o, hF⟩ := x2
                  refine ⟨l, F, e1, o, fun a ha => ⟨(hF a ha).1, (hF a ha).2.1, fun z => ?_⟩⟩
                  rcases ho a z with z | z
                  · exact c1.liv a z (hF a ha).1
                  · exact (hF a ha).2.2 z
              | exc x =>
                intro B' H' O' c dx s2 c2 x2
                obtain ⟨O2, s3, c3, b3, ho⟩ := call_out c1 q2 x1 nd.1 nd.2 hl s2 c2
                exact p0 B' H' O2 c dx (s1.trans s3) c3 (b1.trans b3) ((x2.out ho c1.liv).later s1.live)
            · cases e0
        · cases e0
end
end DL
end

section
namespace DL
open PySem PySem.Spec PyProof.Rows L2
/-- what a statement's end has to bring -/
def PostS (G : Ct2) (W : WX) (B : Hp) (r : Ro) (O : Addr → Prop) (σ : L2.St) (H : Hp) (D : Ends) (r' : Ro) : SO → Prop
  | .nx => ∀ B' H' O' σ', Step B H O B' H' O' → Con G.K B' H' σ' r' O' → Bor r σ r' σ' → D.nx σ' H'
  | .brk => ∀ B' H' O' σ', Step B H O B' H' O' → Con G.K B' H' σ' r' O' → Bor r σ r' σ' → D.bk σ' H'
  | .cnt => ∀ B' H' O' σ', Step B H O B' H' O' → Con G.K B' H' σ' r' O' → Bor r σ r' σ' → D.ct σ' H'
  | .ret v => ∀ B' H' O' σ' x, Step B H O B' H' O' → Con G.K B' H' σ' r' O' → Bor r σ r' σ' → RvR G.K H B' H' O' v x → D.rt x H'
  | .rets i => ∀ B' H' O' σ' x, Step B H O B' H' O' → Con G.K B' H' σ' r' O' → Bor r σ r' σ' → σ'[i]? = some (some x) → D.rt x H'
  | .exc x => ∀ B' H' O' σ' c dx, Step B H O B' H' O' → Con G.K B' H' σ' r' O' → Bor r σ r' σ' → XnR G.K G.mg x c dx H B' H' O' → W c dx σ' H'
/-- a statement's meaning from a state, with its ends -/
def AtS (G : Ct2) (W : WX) (m : S) (B : Hp) (r : Ro) (O : Addr → Prop) (σ : L2.St) (H : Hp) (D : Ends) : Prop :=
  Con G.K B H σ r O ∧ ∃ o r', m r = some (o, r') ∧ PostS G W B r O σ H D r' o
def tS (G : Ct2) (W : WX) (m : S) : TS := fun D σ H => ∃ B r O, AtS G W m B r O σ H D
def DS (X : Cx) (W : WX) (st : Stmt) (m : S) : Prop := PS X st (tS (Cx.g X) W m)
def DSs (X : Cx) (W : WX) (st : List Stmt) (m : S) : Prop := PSs X st (tS (Cx.g X) W m)
theorem pss_weak {X : Cx} {e : List Stmt} {t t' : TS} (h : PSs X e t) (w : ∀ D σ H, t' D σ H → t D σ H) : PSs X e t' := ⟨fun pins s σ H D I q => h.run pins s σ H D I (w D σ H q)⟩
section
variable {X : Cx} {W : WX} {G : Ct2}
theorem tS.of {m : S} {B : Hp} {r : Ro} {O : Addr → Prop} {σ : L2.St} {H : Hp} {D : Ends} (h : AtS G W m B r O σ H D) : tS G W m D σ H := ⟨B, r, O, h⟩
/-- ahead of a statement something else went -/
theorem AtS.after {m : S} {B B1 : Hp} {r r1 : Ro} {O O1 : Addr → Prop} {σ σ1 : L2.St} {H H1 : Hp} {D : Ends} {o : SO} {r' : Ro} (s1 : Step B H O B1 H1 O1) (c1 : Con G.K B1 H1 σ1 r1 O1) (b1 : Bor r σ r1 σ1) (e : m r1 = some (o, r'))
    (p : PostS G W B r O σ H D r' o) : AtS G W m B1 r1 O1 σ1 H1 D := by
  refine ⟨c1, o, r', e, ?_⟩
  cases o with
  | nx => exact fun B' H' O' σ' s c b => p B' H' O' σ' (s1.trans s) c (b1.trans b)
  | brk => exact fun B' H' O' σ' s c b => p B' H' O' σ' (s1.trans s) c (b1.trans b)
  | cnt => exact fun B' H' O' σ' s c b => p B' H' O' σ' (s1.trans s) c (b1.trans b)
  | ret v => exact fun B' H' O' σ' x s c b y => p B' H' O' σ' x (s1.trans s) c (b1.trans b) (later_rV (G := G) H H1 B' H' O' σ' v x s1.live y)
  | rets i => exact fun B' H' O' σ' x s c b y => p B' H' O' σ' x (s1.trans s) c (b1.trans b) y
  | exc x => exact fun B' H' O' σ' k dx s c b y => p B' H' O' σ' k dx (s1.trans s) c (b1.trans b) (y.later s1.live)
theorem AtS.seq {a b : S} {B : Hp} {r : Ro} {O : Addr → Prop} {σ : L2.St} {H : Hp} {D : Ends} (h : AtS G W (sSeq a b) B r O σ H D) : AtS G W a B r O σ H { D with nx := tS G W b D } := by
  obtain ⟨c, o, r', e, p⟩ := h
  refine ⟨c, ?_⟩
  unfold sSeq at e
  cases q : a r with
  | none => rw [q] at e; cases e
  | some z =>
    obtain ⟨o1, r1⟩ := z
    rw [q] at e
    refine ⟨o1, r1, rfl, ?_⟩
    cases o1 with
    | nx => exact fun B1 H1 O1 σ1 s1 c1 b1 => tS.of (AtS.after s1 c1 b1 e p)
    | brk => cases e; exact p
    | cnt => cases e; exact p
    | ret v => cases e; exact p
    | rets i => cases e; exact p
    | exc x => cases e; exact p
/-- an expression ahead -/
theorem AtS.ex {α β : Type} {m : M α} {k : α → S} {R : Rl α β} {B : Hp} {r : Ro} {O : Addr → Prop} {σ : L2.St} {H : Hp} {D : Ends} (h : AtS G W (sEx m k) B r O σ H D) :
    At G W m R B r O σ H fun y H1 => ∃ a B1 r1 O1, Step B H O B1 H1 O1 ∧ Bor r σ r1 σ ∧ R H B1 H1 O1 σ a y ∧ Con G.K B1 H1 σ r1 O1 ∧ ∃ o r', k a r1 = some (o, r') ∧ PostS G W B r O σ H D r' o := by
  obtain ⟨c, o, r', e, p⟩ := h
  refine ⟨c, ?_⟩
  unfold sEx at e
  cases q : m r with
  | none => rw [q] at e; cases e
  | some z =>
    obtain ⟨o1, r1⟩ := z
    rw [q] at e
    refine ⟨o1, r1, rfl, ?_⟩
    cases o1 with
    | ok a => exact fun B1 H1 O1 y s1 c1 b1 x1 => ⟨a, B1, r1, O1, s1, b1, x1, c1, o, r', e, p⟩
    | exc x =>
      cases e
      exact fun B1 H1 O1 k dx s1 c1 b1 x1 => p B1 H1 O1 σ k dx s1 c1 b1 x1
theorem dss_nil : DSs X W [] sNx := pss_weak pss_nil fun D σ H ⟨B, r, O, c, o, r', e, p⟩ => by
  cases e
  exact p B H O σ .refl c .refl
theorem dss_cons {st : Stmt} {sts : List Stmt} {a b : S} (h : DS X W st a) (t : DSs X W sts b) : DSs X W (st :: sts) (sSeq a b) := pss_weak (pss_cons h t) fun D σ H ⟨B, r, O, h⟩ => tS.of h.seq
theorem dss_one {st : Stmt} {a : S} (h : DS X W st a) : DSs X W [st] a := pss_one h
theorem ds_ret {e : Expr} {pos : Pos} {m : M RV} (h : DE X W e m) : DS X W (.Return (some e) pos) (sRet m) := ps_weak (ps_ret h) fun D σ H ⟨B, r, O, h⟩ => by
  refine tG.of (h.ex.mono ?_)
  rintro y H1 ⟨v, B1, r1, O1, s1, b1, x1, c1, o, r', e, p⟩
  cases e
  exact p B1 H1 O1 σ y s1 c1 b1 x1
theorem ds_if {c : Expr} {a b : List Stmt} {pos : Pos} {t : M Bool} {m n : S} (hc : DB X W c t) (ha : DSs X W a m) (hb : DSs X W b n) : DS X W (.If c a b pos) (sIf t m n) := ps_weak (ps_if hc ha hb) fun D σ H ⟨B, r, O, h⟩ => by
  refine tG.of (h.ex.mono ?_)
  rintro y H1 ⟨v, B1, r1, O1, s1, b1, x1, c1, o, r', e, p⟩
  cases x1
  cases y with
  | true => exact iteT (tS.of (AtS.after s1 c1 b1 e p))
  | false => exact iteF (tS.of (AtS.after s1 c1 b1 e p))
theorem ds_expr {e : Expr} {pos : Pos} {m : M RV} (h : DE X W e m) (hs : swapsWith e none pos.line X.env = pure false := by rfl) : DS X W (.Expr e pos) (sDrop m) := ps_weak (ps_expr h hs) fun D σ H ⟨B, r, O, h⟩ => by
  refine tG.of (h.ex.mono ?_)
  rintro y H1 ⟨v, B1, r1, O1, s1, b1, x1, c1, o, r', e, p⟩
  cases e
  exact p B1 H1 O1 σ s1 c1 b1
/-- the slot i gets a result -/
theorem put_ok {K : PySem.W.Frag} {B H0 H : Hp} {σ : L2.St} {r r' : Ro} {O : Addr → Prop} {i : Nat} {v : RV} {x : V} {o : SO} (c : Con K B H σ r O) (e : putSl i v r = some (o, r')) (h : RvR K H0 B H O v x) (live : ∀ p, H0 p ≠ none → H p ≠ none) :
    o = .nx ∧ ∃ O', Con K B H (σ.set i (some x)) r' O' ∧ Bor r σ r' (σ.set i (some x)) ∧ ∀ a, O' a → O a ∨ H0 a = none := by
  unfold putSl at e
  split at e
  · cases e
  · rename_i y hy
    split at e
    · cases e
    · rename_i np
      have hi : i < σ.length := by
        rw [← c.len]
        exact (List.getElem?_eq_some_iff.mp hy).1
      have bor : ∀ z, Bor r σ (r.set i z) (σ.set i (some x)) := fun z j w hw pw => by
        have hj : j ≠ i := fun e => by
          subst e
          rw [hy] at hw; cases hw
          cases y <;> exact np pw
        exact ⟨⟨w, by rw [List.getElem?_set_ne (Ne.symm hj)]; exact hw, pw⟩, List.getElem?_set_ne (Ne.symm hj)⟩
      cases v with
      | val d =>
        cases e
        exact ⟨rfl, O, c.setF hi h, bor _, fun a h => .inl h⟩
      | new ct =>
        have e' : (∀ rows, ct = .ll rows → noAl r i = true) ∧ o = .nx ∧ r' = r.set i (.own false ct) := by
          cases ct with
          | ll rows =>
            simp only at e
            split at e
            · rename_i q; cases e; exact ⟨fun _ _ => q, rfl, rfl⟩
            · cases e
          | _ => cases e; exact ⟨fun _ z => (by cases z), rfl, rfl⟩
        obtain ⟨hal, rfl, rfl⟩ := e'
        obtain ⟨F, hF, c'⟩ := c.setN (b := false) hi h hal
        exact ⟨rfl, _, c', bor _, fun a h => h.elim .inl fun h => .inr (hF a h).1⟩
theorem put_step {B H B1 H1 : Hp} {O O1 O' : Addr → Prop} (s : Step B H O B1 H1 O1) (h : ∀ a, O' a → O1 a ∨ H a = none) : Step B H O B1 H1 O' :=
  ⟨s.sB, s.keep, s.live, s.nB, fun a z => (h a z).elim (s.nO a) .inr⟩
theorem ds_setG {st : Stmt} {i : Nat} {m : M RV} (h : PS X st (tAsg (tG (Cx.g X) W m (rV (Cx.g X))) (gName i))) : DS X W st (sSet i m) := ps_weak h fun D σ H ⟨B, r, O, h⟩ => by
  refine tG.of (h.ex.mono ?_)
  rintro y H1 ⟨v, B1, r1, O1, s1, b1, x1, c1, o, r', e, p⟩
  obtain ⟨rfl, O2, c2, b2, h2⟩ := put_ok c1 e x1 s1.live
  exact p B1 H1 O2 _ (put_step s1 h2) c2 (b1.trans b2)
/-- name = e -/
theorem ds_set {i : Nat} {x : Str} {e : Expr} {pos pos' : Pos} {m : M RV} (hN : X.N.Nodup) (hi : X.N[i]? = some x) (hx : Loc X.env.scope x) (he : DE X W e m) (hs : swapsWith e (some (.Name x pos')) pos.line X.env = pure false := by rfl)
    (hf : X.fn x = true ∨ X.env.scope.names.lookup x = some .local := by first | exact .inl rfl | exact .inr rfl | assumption) : DS X W (.Assign [.Name x pos'] e pos) (sSet i m) := ds_setG (ps_set hN hi hx he hs hf)
end
end DL
end

section
namespace DL
open PySem
def forS (set : D → S) (body : S) : List D → S
  | [] => sNx
  | d :: ds => fun r => match set d r with
    | some (.nx, r1) => match body r1 with
      | some (.nx, r2) => forS set body ds r2
      | some (.cnt, r2) => forS set body ds r2
      | some (.brk, r2) => some (.nx, r2)
      | z => z
    | _ => none
def sFor (mi : M (List D)) (set : D → S) (body : S) : S := sEx mi (forS set body)
/-- several targets -/
def sets : List (D → S) → List D → S
  | [], [] => sNx
  | f :: fs, d :: ds => sSeq (f d) (sets fs ds)
  | _, _ => fun _ => none
def setN (i : Nat) : D → S := fun d => putSl i (.val d)
def setT (fs : List (D → S)) : D → S
  | .tuple ds => sets fs ds
  | _ => fun _ => none
/-- a comprehension's own names are forgotten -/
def wipeR (r : Ro) : List Nat → Ro
  | [] => r
  | v :: vs => (wipeR r vs).set v .non
def anyPin (r : Ro) (vs : List Nat) : Bool := vs.any fun i => match r[i]? with
  | some x => putSl.pinnedB x
  | none => false
def lcM (vs : List Nat) (set : D → S) (t : M Bool) (e : M RV) : List D → List D → Ro → Option (List D × Ro)
  | [], acc, r => some (acc, r)
  | d :: ds, acc, r => match set d r with
    | some (.nx, r1) => match t r1 with
      | some (.ok true, r2) => match mFz e r2 with
        | some (.ok x, r3) => if acc.length < lineD then lcM vs set t e ds (acc ++ [x]) (wipeR r3 vs) else none
        | _ => none
      | some (.ok false, r2) => lcM vs set t e ds acc (wipeR r2 vs)
      | _ => none
    | _ => none
def mLc (vs : List Nat) (mi : M (List D)) (set : D → S) (t : M Bool) (e : M RV) : M RV := mi.bind fun ds => fun r =>
  if anyPin r vs then none else (lcM vs set t e ds [] (wipeR r vs)).map fun p => (.ok (.new (.lst p.1)), p.2)
/-- what is walked -/
def mRow (m : M RV) : M (List D) := (mFz m).bind fun d => M.of (rowOf d)
def rng (lo hi : Int) : List D := (List.range (hi - lo).toNat).map fun i => .int (lo + (i : Nat))
def okR (i : Int) : Bool := decide (-(2 ^ 62) ≤ i) && decide (i < 2 ^ 62)
def gRng1 : List Rs → Option (List D)
  | [.fz (.int j)] => if okR j then some (rng 0 j) else none
  | _ => none
def mOpL (g : List Rs → Option (List D)) (ms : List (M AV)) : M (List D) := (oL ms).bind fun as => fun r => match looks2 r as with
  | none => none
  | some xs => (g xs).map fun v => (.ok v, r)
def mYes : M Bool := M.ret true
end DL
end

section
namespace DL
open PySem PySem.Spec PyProof.Rows L2
/-- a pair that a walk has just made: its items alone are data -/
def Dw (K : PySem.W.Frag) (B : Hp) (v : V) (d : D) : Prop := ∃ a xs ds, v = .ref a ∧ d = .tuple ds ∧ SqT K B a xs ∧ DqAll K B xs ds
/-- the iterator yields the items ds, as long as what stood still stands -/
structure Serves (K : PySem.W.Frag) (lo : Bool) (J : It) (B0 : Hp) (ds : List D) : Prop where
  stop : ∀ H, Same B0 H → J.stop ds.length H
  go : ∀ i H, i < ds.length → Same B0 H → J.go i H
  yld : ∀ i H x H' d, ds[i]? = some d → Same B0 H → J.yld i H x H' → ∀ B, Same B0 B → Same B H → (H' = H ∧ Dq K B x d) ∨ (lo = true ∧ ∃ T vs, H T = none ∧ H' = upd H T (.tup vs) ∧ Dw K (upd B T (.tup vs)) x d)
def rI (G : Ct2) (lo : Bool) : Rl (List D) It := fun _ B' _ _ _ ds J => Serves G.K lo J B' ds
theorem later_rI {G : Ct2} {lo : Bool} : Later (rI G lo) := fun _ _ _ _ _ _ _ _ _ h => h
def DI (X : Cx) (W : WX) (lo : Bool) (tg iter : Expr) (m : M (List D)) : Prop := PI X tg iter (tG (Cx.g X) W m (rI (Cx.g X) lo))
theorem pi_weak {X : Cx} {tg e : Expr} {t t' : TI} (h : PI X tg e t) (w : ∀ σ H Q, t' σ H Q → t σ H Q) : PI X tg e t' := ⟨fun pins s σ H Q I q => h.run pins s σ H Q I (w σ H Q q)⟩
/-- a target's store of data: only the slots ix change -/
def gD (K : PySem.W.Frag) (lo : Bool) (ix : List Nat) (set : D → S) : TG := fun v σ H Q => ∃ B r O d r', Con K B H σ r O ∧ (Dq K B v d ∨ (lo = true ∧ Dw K B v d)) ∧ set d r = some (.nx, r') ∧
  ∀ σ', Con K B H σ' r' O → Bor r σ r' σ' → (∀ j : Nat, j ∉ ix → σ'[j]? = σ[j]?) → σ'.length = σ.length → Q σ' H
def DG (X : Cx) (lo : Bool) (tg : Expr) (ix : List Nat) (set : D → S) : Prop := PG X tg (gD X.K lo ix set)
theorem pg_weak {X : Cx} {e : Expr} {t t' : TG} (h : PG X e t) (w : ∀ v σ H Q, t' v σ H Q → t v σ H Q) : PG X e t' := ⟨fun pins s σ H v u Q I r q => h.run pins s σ H v u Q I r (w v σ H Q q)⟩
theorem pgs_weak {X : Cx} {e : List Expr} {t t' : TGs} (h : PGs X e t) (w : ∀ v σ H Q, t' v σ H Q → t v σ H Q) : PGs X e t' := ⟨fun pins s σ H v u Q I r q => h.run pins s σ H v u Q I r (w v σ H Q q)⟩
theorem dg_name {X : Cx} {i : Nat} {x : Str} {pos : Pos} (hN : X.N.Nodup) (hi : X.N[i]? = some x) (hx : Loc X.env.scope x) (hf : X.fn x = true ∨ X.env.scope.names.lookup x = some .local := by first | exact .inl rfl | exact .inr rfl | assumption) : DG X false (.Name x pos) [i] (setN i) :=
  pg_weak (pg_name hN hi hx hf) fun v σ H Q ⟨B, r, O, d, r', c, h, e, q⟩ => by
    have h : Dq X.K B v d := h.elim id fun z => nomatch z.1
    have e' : putSl i (.val d) r = some (.nx, r') := e
    unfold putSl at e'
    split at e'
    · cases e'
    · rename_i y hy
      split at e'
      · cases e'
      · rename_i np
        cases e'
        have hi : i < σ.length := by rw [← c.len]; exact (List.getElem?_eq_some_iff.mp hy).1
        refine q _ (c.setF hi h) (fun j w hw pw => ?_) (fun j hj => List.getElem?_set_ne (fun e => hj (by simp [e]))) List.length_set
        have hj : j ≠ i := fun e => by
          subst e
          rw [hy] at hw; cases hw
          cases y <;> exact np pw
        exact ⟨⟨w, by rw [List.getElem?_set_ne (Ne.symm hj)]; exact hw, pw⟩, List.getElem?_set_ne (Ne.symm hj)⟩
def gDs (K : PySem.W.Frag) (ix : List Nat) (fs : List (D → S)) : TGs := fun vs σ H Q => ∃ B r O ds r', Con K B H σ r O ∧ DqAll K B vs ds ∧ sets fs ds r = some (.nx, r') ∧
  ∀ σ', Con K B H σ' r' O → Bor r σ r' σ' → (∀ j : Nat, j ∉ ix → σ'[j]? = σ[j]?) → σ'.length = σ.length → Q σ' H
def DGs (X : Cx) (tgs : List Expr) (ix : List Nat) (fs : List (D → S)) : Prop := PGs X tgs (gDs X.K ix fs)
theorem dgs_nil {X : Cx} : DGs X [] [] [] := pgs_weak pgs_nil fun v σ H Q ⟨B, r, O, ds, r', c, h, e, q⟩ => by
  cases h with
  | nil =>
    cases e
    exact ⟨rfl, q σ c .refl (fun _ _ => rfl) rfl⟩
  | cons _ _ => cases e
theorem dgs_cons {X : Cx} {t : Expr} {ts : List Expr} {ix jx : List Nat} {f : D → S} {fs : List (D → S)} (h1 : DG X false t ix f) (h2 : DGs X ts jx fs) (hs : List.map (fun x => x.snd) (assignEach (t :: ts) X.env) = assign t X.env :: List.map (fun x => x.snd) (assignEach ts X.env) := by rfl) : DGs X (t :: ts) (ix ++ jx) (f :: fs) := pgs_weak (pgs_cons h1 h2 hs) fun v σ H Q ⟨B, r, O, ds, r', c, h, e, q⟩ => by
  cases h with
  | nil => cases e
  | @cons v vs d ds hd hds =>
    have e' : sSeq (f d) (sets fs ds) r = some (.nx, r') := e
    unfold sSeq at e'
    cases q1 : f d r with
    | none => rw [q1] at e'; cases e'
    | some z =>
      obtain ⟨o1, r1⟩ := z
      rw [q1] at e'
      cases o1 with
      | nx =>
        refine ⟨v, vs, rfl, B, r, O, d, r1, c, .inl hd, q1, fun σ1 c1 b1 k1 l1 => ⟨B, r1, O, ds, r', c1, hds, e', fun σ2 c2 b2 k2 l2 => q σ2 c2 (b1.trans b2) (fun j hj => ?_) (l2.trans l1)⟩⟩
        simp only [List.mem_append, not_or] at hj
        rw [k2 j hj.2, k1 j hj.1]
      | _ => cases e'
theorem sets_len : ∀ {fs : List (D → S)} {ds : List D} {r r' : Ro} {o : SO}, sets fs ds r = some (o, r') → o = .nx → ds.length = fs.length
  | [], [], _, _, _, _, _ => rfl
  | [], _ :: _, _, _, _, e, _ => by cases e
  | _ :: _, [], _, _, _, e, _ => by cases e
  | f :: fs, d :: ds, r, r', o, e, ho => by
    have e' : sSeq (f d) (sets fs ds) r = some (o, r') := e
    unfold sSeq at e'
    split at e'
    · rename_i r1 q
      rw [List.length_cons, List.length_cons, sets_len e' ho]
    · rename_i n
      subst ho
      exact (n r' e').elim
theorem dg_tup {X : Cx} {lo : Bool} {es : List Expr} {k : Nat} {pos : Pos} {ix : List Nat} {fs : List (D → S)} (hc : X.calm = true) (h : DGs X es ix fs)
    (hn : (assignEach es X.env).length = fs.length := by rfl) (hst : (assignEach es X.env).findIdx? (·.1) = none := by rfl) : DG X lo (.Tuple es k pos) ix (setT fs) := pg_weak (pg_tup hc h hn hst) fun v σ H Q ⟨B, r, O, d, r', c, hd, e, q⟩ => by
  cases d with
  | tuple ds =>
    obtain ⟨a, xs, rfl, hs, ha⟩ : ∃ a xs, v = .ref a ∧ SqT X.K B a xs ∧ DqAll X.K B xs ds := by
      rcases hd with hd | ⟨_, a, xs, es, rfl, e, h1, h2⟩
      · obtain ⟨a, xs, rfl, h1, h2⟩ := dp_tuple hd
        exact ⟨a, xs, rfl, h1.sq, h2⟩
      · cases e
        exact ⟨a, xs, rfl, h1, h2⟩
    have e' : sets fs ds r = some (.nx, r') := e
    exact ⟨a, xs, rfl, sqt_same c.sub hs, by rw [ha.length]; exact sets_len e' rfl, B, r, O, ds, r', c, ha, e', q⟩
  | _ => cases e
/-- a walk of a loop -/
theorem ds_for {lo : Bool} {tg iter : Expr} {body : List Stmt} {pos : Pos} {X : Cx} {W : WX} {mi : M (List D)} {ix : List Nat} {set : D → S} {mb : S} (hp : PassesOwn (model X.prog X.w) X.A X.env X.xe) (hc : X.calm = true) (hi : DI X W lo tg iter mi) (hg : DG X lo tg ix set) (hb : DSs X W body mb)
    (hs : ∀ x, foldedSetIterable iter X.env x = pure x := by intro _; rfl) : DS X W (.For tg iter body [] pos) (sFor mi set mb) := ps_weak (ps_for hp hc hi hg hb hs) fun D σ H ⟨B, r, O, h⟩ => by
  refine tG.of (h.ex.mono ?_)
  rintro J H1 ⟨ds, B1, r1, O1, s1, b1, x1, c1, o, r', e, p⟩
  refine ⟨fun i m σ' H' => m = ds.length - i ∧ i ≤ ds.length ∧ ∃ B' r2 O', Step B1 H1 O1 B' H' O' ∧ Con X.K B' H' σ' r2 O' ∧ Bor r1 σ r2 σ' ∧ forS set mb (ds.drop i) r2 = some (o, r'), ⟨ds.length, by simp, Nat.zero_le _, B1, r1, O1, .refl, c1, .refl, e⟩, ?_⟩
  rintro i m σ2 H2 ⟨rfl, hi2, B2, r2, O2, s2, c2, b2, e2⟩
  have sv : Serves X.K lo J B1 ds := x1
  have same : Same B1 H2 := s2.sB.trans c2.sub
  by_cases hlt : i < ds.length
  · refine .inr ⟨sv.go i H2 hlt same, fun σ' H' => i + 1 ≤ ds.length ∧ ∃ B' r2 O', Step B1 H1 O1 B' H' O' ∧ Con X.K B' H' σ' r2 O' ∧ Bor r1 σ r2 σ' ∧ forS set mb (ds.drop (i + 1)) r2 = some (o, r'), fun σ' H' z => ⟨ds.length - (i + 1), by omega, rfl, z⟩, fun x H3 y => ?_⟩
    have ed : ds.drop i = ds[i] :: ds.drop (i + 1) := (List.drop_eq_getElem_cons hlt)
    rw [ed] at e2
    -- the item
    obtain ⟨B3, s3, c3, d3⟩ : ∃ B3, Step B2 H2 O2 B3 H3 O2 ∧ Con X.K B3 H3 σ2 r2 O2 ∧ (Dq X.K B3 x ds[i] ∨ (lo = true ∧ Dw X.K B3 x ds[i])) := by
      rcases sv.yld i H2 x H3 ds[i] (List.getElem?_eq_getElem hlt) same y B2 s2.sB c2.sub with ⟨rfl, d⟩ | ⟨hlo, T, vs, hT, rfl, d⟩
      · exact ⟨B2, .refl, c2, .inl d⟩
      · obtain ⟨c4, s4⟩ := c2.layF (o := .tup vs) hT
        exact ⟨_, s4, c4, .inr ⟨hlo, d⟩⟩
    simp only [forS] at e2
    cases q1 : set ds[i] r2 with
    | none => rw [q1] at e2; cases e2
    | some z1 =>
      obtain ⟨o1, r3⟩ := z1
      rw [q1] at e2
      cases o1 with
      | nx =>
        refine ⟨B3, r2, O2, ds[i], r3, c3, d3, q1, fun σ3 c4 b4 k4 l4 => ⟨B3, r3, O2, c4, ?_⟩⟩
        simp only at e2
        have s03 := s2.trans s3
        have b03 := b2.trans b4
        cases q2 : mb r3 with
        | none => rw [q2] at e2; cases e2
        | some z2 =>
          obtain ⟨o2, r4⟩ := z2
          rw [q2] at e2
          refine ⟨o2, r4, rfl, ?_⟩
          cases o2 with
          | nx => exact fun B' H' O' σ' s' c' b' => ⟨hlt, B', r4, O', s03.trans s', c', b03.trans b', e2⟩
          | cnt => exact fun B' H' O' σ' s' c' b' => ⟨hlt, B', r4, O', s03.trans s', c', b03.trans b', e2⟩
          | brk =>
            cases e2
            exact fun B' H' O' σ' s' c' b' => p B' H' O' σ' (s1.trans (s03.trans s')) c' (b1.trans (b03.trans b'))
          | ret v =>
            cases e2
            exact fun B' H' O' σ' x s' c' b' y => p B' H' O' σ' x (s1.trans (s03.trans s')) c' (b1.trans (b03.trans b')) (later_rV (G := Cx.g X) _ H3 B' H' O' σ' v x (fun a ha => (s03.live a) (s1.live a ha)) y)
          | rets j =>
            cases e2
            exact fun B' H' O' σ' x s' c' b' y => p B' H' O' σ' x (s1.trans (s03.trans s')) c' (b1.trans (b03.trans b')) y
          | exc ex =>
            cases e2
            exact fun B' H' O' σ' k dx s' c' b' y => p B' H' O' σ' k dx (s1.trans (s03.trans s')) c' (b1.trans (b03.trans b')) (y.later (s1.trans s03).live)
      | _ => cases e2
  · have ei : i = ds.length := by omega
    subst ei
    rw [List.drop_length] at e2
    cases e2
    exact .inl ⟨sv.stop H2 same, p B2 H2 O2 σ2 (s1.trans s2) c2 (b1.trans b2)⟩
end DL
end

section
namespace DL
open PySem PySem.Spec PyProof.Rows L2
theorem wipe_in {σ : L2.St} {i : Nat} {x : V} : ∀ {vs : List Nat}, i ∈ vs → (wipe σ vs)[i]? ≠ some (some x)
  | vs, h, e => (wipe_some e).2 h
theorem wipeR_len {r : Ro} : ∀ {vs : List Nat}, (wipeR r vs).length = r.length
  | [] => rfl
  | v :: vs => by
    show ((wipeR r vs).set v .non).length = _
    rw [List.length_set, wipeR_len]
theorem wipeR_out {r : Ro} {i : Nat} : ∀ {vs : List Nat}, i ∉ vs → (wipeR r vs)[i]? = r[i]?
  | [], _ => rfl
  | v :: vs, h => by
    simp only [List.mem_cons, not_or] at h
    show ((wipeR r vs).set v .non)[i]? = _
    rw [List.getElem?_set_ne (Ne.symm h.1), wipeR_out h.2]
theorem wipeR_in {r : Ro} {i : Nat} {x : Sl} : ∀ {vs : List Nat}, i ∈ vs → (wipeR r vs)[i]? = some x → x = .non
  | v :: vs, h, e => by
    have e : ((wipeR r vs).set v .non)[i]? = some x := e
    rcases get_set e with ⟨_, z⟩ | ⟨n, e⟩
    · exact z
    · rcases List.mem_cons.mp h with rfl | h
      · exact absurd rfl n
      · exact wipeR_in h e
/-- the slots vs are forgotten: they may stand as they like -/
theorem Con.wiped {K : PySem.W.Frag} {B H : Hp} {σ σ' : L2.St} {r : Ro} {O : Addr → Prop} (c : Con K B H σ r O) {vs : List Nat} (hl : σ'.length = σ.length) (hs : ∀ j : Nat, j ∉ vs → σ'[j]? = σ[j]?) : Con K B H σ' (wipeR r vs) O := by
  induction vs generalizing σ' with
  | nil =>
    have e : σ' = σ := List.ext_getElem? fun j => hs j (by simp)
    subst e
    exact c
  | cons v vs ih =>
    -- first all but v
    have c1 := ih (σ' := σ'.set v ((σ[v]?).getD none)) (by rw [List.length_set, hl]) fun j hj => by
      by_cases e : j = v
      · subst e
        by_cases hv : j < σ'.length
        · rw [List.getElem?_set_self hv]
          have : j < σ.length := by omega
          rw [List.getElem?_eq_getElem this]
          rfl
        · rw [List.getElem?_eq_none (by rw [List.length_set]; omega), List.getElem?_eq_none (by omega)]
      · rw [List.getElem?_set_ne (Ne.symm e)]
        exact hs j (by simp [e, hj])
    exact c1.replace (i := v) (x := .non) (by rw [List.length_set]) (fun j n => by rw [List.getElem?_set_ne (Ne.symm n)]) trivial (fun _ _ e => by cases e)
theorem bor_wipe {r : Ro} {σ σ' : L2.St} {vs : List Nat} (h : anyPin r vs = false) (hs : ∀ j : Nat, j ∉ vs → σ'[j]? = σ[j]?) : Bor r σ (wipeR r vs) σ' := fun i x hx px => by
  have hi : i ∉ vs := fun hm => by
    have : anyPin r vs = true := List.any_eq_true.mpr ⟨i, hm, by rw [hx]; cases x <;> exact px⟩
    rw [h] at this; cases this
  exact ⟨⟨x, by rw [wipeR_out hi]; exact hx, px⟩, hs i hi⟩
def DTs (X : Cx) (W : WX) (ifs : List Expr) (m : M Bool) : Prop := PTs X ifs (tG (Cx.g X) W m rB)
theorem dts_nil {X : Cx} {W : WX} : DTs X W [] mYes := ⟨fun pins s σ H Q I ⟨B, r, O, h⟩ => pts_nil.run pins s σ H Q I (h.ret rfl)⟩
theorem dts_one {X : Cx} {W : WX} {c : Expr} {m : M Bool} (h : DB X W c m) : DTs X W [c] m := pts_one h
abbrev W0 : WX := fun _ _ _ _ => False
/-- a slot list without the comprehension's own names -/
def Clear (r : Ro) (vs : List Nat) : Prop := ∀ i ∈ vs, ∀ x, r[i]? = some x → x = Sl.non
theorem clear_wipe {r : Ro} {vs : List Nat} (h : Clear r vs) : wipeR r vs = r := by
  apply List.ext_getElem?
  intro j
  by_cases hj : j ∈ vs
  · cases q : r[j]? with
    | none => rw [List.getElem?_eq_none_iff] at q ⊢; rw [wipeR_len]; exact q
    | some x =>
      rw [h j hj x q]
      cases q2 : (wipeR r vs)[j]? with
      | none =>
        rw [List.getElem?_eq_none_iff, wipeR_len] at q2
        rw [List.getElem?_eq_none_iff.mpr q2] at q
        cases q
      | some y => rw [wipeR_in hj q2]
  · exact wipeR_out hj
theorem bor_wipe2 {r1 r4 : Ro} {σ σ2 σ' : L2.St} {vs : List Nat} (h : anyPin r1 vs = false) (b : Bor r1 σ r4 σ2) (hs : ∀ j : Nat, j ∉ vs → σ'[j]? = σ[j]?) : Bor r1 σ (wipeR r4 vs) σ' := fun i x hx px => by
  have hi : i ∉ vs := fun hm => by
    have : anyPin r1 vs = true := List.any_eq_true.mpr ⟨i, hm, by rw [hx]; cases x <;> exact px⟩
    rw [h] at this; cases this
  obtain ⟨⟨y, h1, h2⟩, h3⟩ := b i x hx px
  exact ⟨⟨y, by rw [wipeR_out hi]; exact h1, h2⟩, hs i hi⟩
section
variable {X : Cx} {W : WX}
theorem lc_read {lo : Bool} {mi : M (List D)} {vs ix : List Nat} {set : D → S} {t : M Bool} {me : M RV} (hix : ∀ j ∈ ix, j ∈ vs) {σ : L2.St} {H : Hp} {Q : VK} (h : tG (Cx.g X) W (mLc vs mi set t me) (rV (Cx.g X)) σ H Q) :
    tLc (tG (Cx.g X) W mi (rI (Cx.g X) lo)) (gD X.K lo ix set) (tG (Cx.g X) W0 t rB) (tG (Cx.g X) W0 me (rV (Cx.g X))) vs σ H Q := by
  obtain ⟨B, r, O, h⟩ := h
  refine tG.of ((h.bind later_rV (R := rI (Cx.g X) lo)).mono ?_)
  rintro J H1 ⟨ds, B1, r1, O1, s1, x1, c1, o, r', e, p⟩
  intro D hD
  have sv : Serves X.K lo J B1 ds := x1
  simp only at e
  split at e
  · cases e
  · rename_i np
    have np : anyPin r1 vs = false := by simpa using np
    cases q : lcM vs set t me ds [] (wipeR r1 vs) with
    | none => rw [q] at e; cases e
    | some z =>
      obtain ⟨xs, rf⟩ := z
      rw [q] at e
      cases e
      obtain ⟨bD, nD, c2, s2⟩ := c1.lay (o := .lst []) hD
      have wl := wipe_length σ vs
      have wo : ∀ j : Nat, j ∉ vs → (wipe σ vs)[j]? = σ[j]? := fun j hj => wipe_out hj
      refine ⟨fun i m H' => m = ds.length - i ∧ i ≤ ds.length ∧ ∃ B' r2 O' acc ad, Step B1 H1 O1 B' H' O' ∧ Con X.K B' H' (wipe σ vs) r2 O' ∧ Clear r2 vs ∧ Bor r1 σ r2 (wipe σ vs) ∧ H' D = some (.lst acc) ∧ DqAll X.K B' acc ad ∧ B' D = none ∧ ¬ O' D ∧ lcM vs set t me (ds.drop i) ad r2 = some (xs, rf),
        ⟨ds.length, by simp, Nat.zero_le _, B1, _, O1, [], [], s2, c2.wiped wl wo, fun i hi x hx => wipeR_in hi hx, bor_wipe np wo, upd_same, .nil, bD, nD, q⟩, ?_⟩
      rintro i m H2 ⟨rfl, hi2, B2, r2, O2, acc, ad, s3, c3, k3, b3, hA, hQ, bD2, nD2, e2⟩
      have same : Same B1 H2 := s3.sB.trans c3.sub
      by_cases hlt : i < ds.length
      · refine .inr ⟨sv.go i H2 hlt same, fun H' => i + 1 ≤ ds.length ∧ ∃ B' r2 O' acc ad, Step B1 H1 O1 B' H' O' ∧ Con X.K B' H' (wipe σ vs) r2 O' ∧ Clear r2 vs ∧ Bor r1 σ r2 (wipe σ vs) ∧ H' D = some (.lst acc) ∧ DqAll X.K B' acc ad ∧ B' D = none ∧ ¬ O' D ∧ lcM vs set t me (ds.drop (i + 1)) ad r2 = some (xs, rf),
          fun H' z => ⟨ds.length - (i + 1), by omega, rfl, z⟩, fun x H3 y => ?_⟩
        have ed : ds.drop i = ds[i] :: ds.drop (i + 1) := (List.drop_eq_getElem_cons hlt)
        rw [ed] at e2
        obtain ⟨B3, s4, c4, d4⟩ : ∃ B3, Step B2 H2 O2 B3 H3 O2 ∧ Con X.K B3 H3 (wipe σ vs) r2 O2 ∧ (Dq X.K B3 x ds[i] ∨ (lo = true ∧ Dw X.K B3 x ds[i])) := by
          rcases sv.yld i H2 x H3 ds[i] (List.getElem?_eq_getElem hlt) same y B2 s3.sB c3.sub with ⟨rfl, d⟩ | ⟨hlo, T, ws, hT, rfl, d⟩
          · exact ⟨B2, .refl, c3, .inl d⟩
          · obtain ⟨c5, s5⟩ := c3.layF (o := .tup ws) hT
            exact ⟨_, s5, c5, .inr ⟨hlo, d⟩⟩
        simp only [lcM] at e2
        cases q1 : set ds[i] r2 with
        | none => rw [q1] at e2; cases e2
        | some z1 =>
          obtain ⟨o1, r3⟩ := z1
          rw [q1] at e2
          cases o1 with
          | nx =>
            refine ⟨B3, r2, O2, ds[i], r3, c4, d4, q1, fun σ2 c5 b5 k5 l5 => ⟨?_, ?_⟩⟩
            · apply List.ext_getElem?
              intro j
              by_cases hj : j ∈ vs
              · by_cases hl : j < σ.length
                · have g : ∀ τ : L2.St, τ.length = σ.length → (wipe τ vs)[j]? = some none := fun τ hτ => by
                    cases qq : (wipe τ vs)[j]? with
                    | none => rw [List.getElem?_eq_none_iff, wipe_length] at qq; omega
                    | some w => cases w with
                      | none => rfl
                      | some w => exact absurd qq (wipe_in hj)
                  rw [g σ rfl, g σ2 (l5.trans wl)]
                · rw [List.getElem?_eq_none (by rw [wipe_length, l5, wl]; omega), List.getElem?_eq_none (by rw [wl]; omega)]
              · rw [wipe_out hj, wipe_out hj, k5 j (fun z => hj (hix j z)), wipe_out hj]
            · simp only at e2
              cases q2 : t r3 with
              | none => rw [q2] at e2; cases e2
              | some z2 =>
                obtain ⟨o2, r4⟩ := z2
                rw [q2] at e2
                refine ⟨B3, r3, O2, c5, o2, r4, q2, ?_⟩
                cases o2 with
                | exc x => cases e2
                | ok b =>
                  intro B5 H5 O5 b' s6 c6 b6 hb'
                  cases hb'
                  have s36 : Step B1 H1 O1 B5 H5 O5 := (s3.trans s4).trans s6
                  have hA3 : H3 D = some (.lst acc) := s4.keep D _ hA nD2
                  have bD3 : B3 D = none := s4.nB D (by rw [hA]; simp) nD2 bD2
                  have hA5 : H5 D = some (.lst acc) := s6.keep D _ hA3 nD2
                  have bD5 : B5 D = none := s6.nB D (by rw [hA3]; simp) nD2 bD3
                  have nD5 : ¬ O5 D := fun z => by
                    rcases s6.nO D z with z | z
                    · exact nD2 z
                    · rw [hA3] at z; cases z
                  cases b with
                  | false =>
                    exact iteF ⟨hlt, B5, wipeR r4 vs, O5, acc, ad, s36, c6.wiped (wl.trans (l5.trans wl).symm |>.trans rfl) fun j hj => (k5 j fun z => hj (hix j z)).symm, fun i hi x hx => wipeR_in hi hx, bor_wipe2 np (b3.trans (b5.trans b6)) wo, hA5, dqa_same' s4 s6 hQ, bD5, nD5, e2⟩
                  | true =>
                    simp only at e2
                    cases q3 : mFz me r4 with
                    | none => rw [q3] at e2; cases e2
                    | some z3 =>
                      obtain ⟨o3, r5⟩ := z3
                      rw [q3] at e2
                      cases o3 with
                      | exc x => cases e2
                      | ok d =>
                        simp only at e2
                        split at e2
                        · rename_i hz
                          refine iteT (tG.of (At.froz ⟨c6, .ok d, r5, q3, fun B6 H6 O6 y6 s7 c7 b7 d7 => ?_⟩))
                          have hA6 : H6 D = some (.lst acc) := s7.keep D _ hA5 nD5
                          have bD6 : B6 D = none := s7.nB D (by rw [hA5]; simp) nD5 bD5
                          have nD6 : ¬ O6 D := fun z => by
                            rcases s7.nO D z with z | z
                            · exact nD5 z
                            · rw [hA5] at z; cases z
                          have qa := dpa_same s7.sB (dqa_same' s4 s6 hQ)
                          refine ⟨acc, hA6, by rw [qa.length, ← line_eq]; exact hz, hlt, ?_⟩
                          -- the new list grows: it is nobody's
                          have c8 : Con X.K B6 (upd H6 D (.lst (acc ++ [y6]))) σ2 r5 O6 := c7.mono (Same.refl _) (fun a w ha => by
                            by_cases z : a = D
                            · subst z; rw [bD6] at ha; cases ha
                            · rw [upd_ne z]; exact c7.sub a w ha) (fun a ha => upd_ne (show a ≠ D from fun z => nD6 (by rw [← z]; exact ha))) c7.off
                          have s37 := s36.trans s7
                          have s9 : Step B1 H1 O1 B6 (upd H6 D (.lst (acc ++ [y6]))) O6 := ⟨s37.sB, fun a w ha na => by
                            rw [upd_ne (ne_of_none ha hD)]
                            exact s37.keep a w ha na, fun a ha => by
                            by_cases z : a = D
                            · subst z; rw [upd_same]; simp
                            · rw [upd_ne z]; exact s37.live a ha, s37.nB, s37.nO⟩
                          exact ⟨B6, wipeR r5 vs, O6, acc ++ [y6], ad ++ [d], s9, c8.wiped (wl.trans (l5.trans wl).symm |>.trans rfl) fun j hj => (k5 j fun z => hj (hix j z)).symm, fun i hi x hx => wipeR_in hi hx, bor_wipe2 np (b3.trans (b5.trans (b6.trans b7))) wo, upd_same, qa.append (.cons d7 .nil), bD6, nD6, e2⟩
                        · cases e2
          | _ => cases e2
      · have ei : i = ds.length := by omega
        subst ei
        rw [List.drop_length] at e2
        cases e2
        refine .inl ⟨sv.stop H2 same, p B2 H2 O2 (.ref D) s3 ?_ (fun i x hx px => ⟨(b3 i x hx px).1, rfl⟩) ⟨D, [D], rfl, ⟨rfl, acc, hA, hQ⟩, fun a ha => ?_⟩⟩
        · have c9 := c3.wiped (σ' := σ) wl.symm fun j hj => (wo j hj).symm
          rw [clear_wipe k3] at c9
          exact c9
        · simp at ha
          subst ha
          exact ⟨hD, bD2, nD2⟩
where
  dqa_same' {K : PySem.W.Frag} {B2 H2 B3 H3 B5 H5 : Hp} {O2 O3 O5 : Addr → Prop} {acc : List V} {ad : List D} (s4 : Step B2 H2 O2 B3 H3 O3) (s6 : Step B3 H3 O3 B5 H5 O5) (h : DqAll K B2 acc ad) : DqAll K B5 acc ad := dpa_same s6.sB (dpa_same s4.sB h)
/-- [elt for target in iter if ..] -/
theorem de_lc {lo : Bool} {elt tg iter : Expr} {ifs : List Expr} {scope : Scope} {own : List (Str × Nat)} {pos : Pos} {mi : M (List D)} {ix : List Nat} {set : D → S} {t : M Bool} {me : M RV} (hc : X.calm = true) (hN : X.N.Nodup) (hi : DI X W lo tg iter mi) (ok : BlkOk X.N X.env.scope scope own)
    (hg : ∀ (s : Shared) (H : Hp) (C : Addr) (cl : List (Str × Addr)) (fp : List Addr), DG (X.blk s H scope (compEnvC scope cl C X.env) fp) lo tg ix set) (ht : ∀ (s : Shared) (H : Hp) (C : Addr) (cl : List (Str × Addr)) (fp : List Addr), DTs (X.blk s H scope (compEnvC scope cl C X.env) fp) W0 ifs t)
    (he : ∀ (s : Shared) (H : Hp) (C : Addr) (cl : List (Str × Addr)) (fp : List Addr), DE (X.blk s H scope (compEnvC scope cl C X.env) fp) W0 elt me) (hix : ∀ j ∈ ix, j ∈ own.map (·.2)) (hs : ∀ x, foldedSetIterable iter X.env x = pure x := by intro _; rfl) :
    DE X W (.ListComp elt [⟨tg, iter, ifs, 0⟩] scope pos) (mLc (own.map (·.2)) mi set t me) :=
  pe_weak (pe_lc (g := gD X.K lo ix set) (tt := tG (Cx.g X) W0 t rB) (te := tG (Cx.g X) W0 me (rV (Cx.g X))) hc hN hi ok hg ht he hs) fun σ H Q h => lc_read hix h
/-- name = [..] on one line -/
theorem ds_setLc {lo : Bool} {i : Nat} {y : Str} {py : Pos} {elt tg iter : Expr} {ifs : List Expr} {scope : Scope} {own : List (Str × Nat)} {pos spos : Pos} {mi : M (List D)} {ix : List Nat} {set : D → S} {t : M Bool} {me : M RV} (hc : X.calm = true) (hN : X.N.Nodup) (hy : X.N[i]? = some y) (hyl : X.env.scope.names.lookup y = some .local)
    (hsw : swapsWith (.ListComp elt [⟨tg, iter, ifs, 0⟩] scope pos) (some (.Name y py)) spos.line X.env = pure true) (hi : DI X W lo tg iter mi) (ok : BlkOk X.N X.env.scope scope own)
    (hg : ∀ (s : Shared) (H : Hp) (C : Addr) (cl : List (Str × Addr)) (fp : List Addr), DG (X.blk s H scope (compEnvC scope cl C X.env) fp) lo tg ix set) (ht : ∀ (s : Shared) (H : Hp) (C : Addr) (cl : List (Str × Addr)) (fp : List Addr), DTs (X.blk s H scope (compEnvC scope cl C X.env) fp) W0 ifs t)
    (he : ∀ (s : Shared) (H : Hp) (C : Addr) (cl : List (Str × Addr)) (fp : List Addr), DE (X.blk s H scope (compEnvC scope cl C X.env) fp) W0 elt me) (hix : ∀ j ∈ ix, j ∈ own.map (·.2)) (hs : ∀ x, foldedSetIterable iter X.env x = pure x := by intro _; rfl) :
    DS X W (.Assign [.Name y py] (.ListComp elt [⟨tg, iter, ifs, 0⟩] scope pos) spos) (sSet i (mLc (own.map (·.2)) mi set t me)) :=
  ds_setG (ps_weak (ps_setLc (g := gD X.K lo ix set) (tt := tG (Cx.g X) W0 t rB) (te := tG (Cx.g X) W0 me (rV (Cx.g X))) hc hN hy hyl hsw hi ok hg ht he hs) fun D σ H h => lc_read hix h)
theorem serves_list {lo : Bool} {K : PySem.W.Frag} {B0 : Hp} {a : Addr} {xs : List V} {ds : List D} (h : SqL K B0 a xs) (d : DqAll K B0 xs ds) : Serves K lo (Itl K a) B0 ds := by
  refine ⟨fun H s => ⟨xs, s.seq h, by rw [d.length]; exact Nat.le_refl _⟩, fun i H hi s => ?_, fun i H x H' e he s y B b1 b2 => ?_⟩
  · rw [← d.length] at hi
    exact ⟨xs, xs[i], s.seq h, List.getElem?_eq_getElem hi⟩
  · obtain ⟨rfl, y⟩ := y
    obtain ⟨v, h1, h2⟩ := d.get he
    have := y xs (s.seq h)
    rw [h1] at this; cases this
    exact .inl ⟨rfl, dp_same b1 h2⟩
theorem serves_tup {lo : Bool} {K : PySem.W.Frag} {B0 : Hp} {a : Addr} {xs : List V} {ds : List D} (h : SqT K B0 a xs) (d : DqAll K B0 xs ds) : Serves K lo (Itt K a) B0 ds := by
  refine ⟨fun H s => ⟨xs, sqt_same s h, by rw [d.length]; exact Nat.le_refl _⟩, fun i H hi s => ?_, fun i H x H' e he s y B b1 b2 => ?_⟩
  · rw [← d.length] at hi
    exact ⟨xs, xs[i], sqt_same s h, List.getElem?_eq_getElem hi⟩
  · obtain ⟨rfl, y⟩ := y
    obtain ⟨v, h1, h2⟩ := d.get he
    have := y xs (sqt_same s h)
    rw [h1] at this; cases this
    exact .inl ⟨rfl, dp_same b1 h2⟩
theorem serves_range {lb : Bool} {K : PySem.W.Frag} {B0 : Hp} {lo hi : Int} : Serves K lb (Itr lo (hi - lo).toNat) B0 (rng lo hi) := by
  have hl : (rng lo hi).length = (hi - lo).toNat := by simp [rng]
  refine ⟨fun H s => by show (hi - lo).toNat ≤ _; rw [hl]; exact Nat.le_refl _, fun i H h s => by rw [hl] at h; exact h, fun i H x H' e he s y B b1 b2 => ?_⟩
  obtain ⟨rfl, rfl⟩ := y
  have hi' : i < (hi - lo).toNat := by
    rw [← hl]; exact (List.getElem?_eq_some_iff.mp he).1
  have : e = .int (lo + i) := by
    simp only [rng, List.getElem?_map, List.getElem?_range hi', Option.map_some, Option.some.injEq] at he
    exact he.symm
  subst this
  exact .inl ⟨rfl, .int _⟩
/-- a list or a tuple -/
theorem pi_seq {tg l : Expr} {tl : TE} (hl : PE X l tl) : PI X tg l (fun σ H R => tl σ H fun x H1 => (∃ a, x = .ref a ∧ (∃ xs, SqL X.K H1 a xs) ∧ R (Itl X.K a) H1) ∨ ∃ a, x = .ref a ∧ (∃ xs, SqT X.K H1 a xs) ∧ R (Itt X.K a) H1) := by
  refine ⟨fun pins s σ H R I h => ?_⟩
  refine thn (hl.run pins s σ H _ I h) fun v s1 ⟨x, H1, I1, r1, q1⟩ => ?_
  rcases q1 with ⟨a, e, ⟨xs, hq⟩, q⟩ | ⟨a, e, ⟨xs, hq⟩, q⟩
  · subst e
    cases r1
    obtain ⟨its, rv, p, hz⟩ := I1.list hq
    refine wpAny_pyIter_list p.isList ?_
    refine ⟨s1.heap.objs.size, [s1.heap.objs.size], _, _, H1, rfl, I1.kept (t' := s1.toks) fun b o e => Heap.get?_push_of_some _ e, turn_list a _, ⟨_, Heap.get?_push_size _ rfl, rfl, rfl⟩, fun b hb => ?_, q⟩
    have e : b = s1.heap.objs.size := by simpa using hb
    subst e
    exact I1.fpOk (Nat.le_refl _) (I1.hok.fresh (Nat.le_refl _))
  · subst e
    cases r1
    obtain ⟨its, rv, p, hz⟩ := I1.tuple hq
    refine wpAny_pyIter_tuple (show s1.heap.IsTuple a its.toArray from p) ?_
    refine ⟨s1.heap.objs.size, [s1.heap.objs.size], _, _, H1, rfl, I1.kept (t' := s1.toks) fun b o e => Heap.get?_push_of_some _ e, turn_tuple a _, ⟨_, Heap.get?_push_size _ rfl, rfl, rfl⟩, fun b hb => ?_, q⟩
    have e : b = s1.heap.objs.size := by simpa using hb
    subst e
    exact I1.fpOk (Nat.le_refl _) (I1.hok.fresh (Nat.le_refl _))
theorem di_seq {lo : Bool} {tg e : Expr} {m : M RV} (h : DE X W e m) : DI X W lo tg e (mRow m) := pi_weak (pi_seq h) fun σ H R ⟨B, r, O, h⟩ => by
  refine tG.of (At.froz ((h.bind later_rI (R := rD (Cx.g X))).mono ?_))
  rintro v H1 ⟨d, B1, r1, O1, s1, dp, h1⟩
  have dp : Dq X.K B1 v d := dp
  obtain ⟨c, o, r', e, p⟩ := h1
  cases q : rowOf d with
  | none => rw [q] at e; cases e
  | some ds =>
    rw [q] at e
    cases e
    rcases row_of q with rfl | rfl
    · obtain ⟨a, xs, rfl, hs, ha⟩ := dp_list dp
      exact .inl ⟨a, rfl, ⟨xs, .of (c.sub _ _ hs)⟩, p B1 H1 O1 _ .refl c .refl (serves_list (.of hs) ha)⟩
    · obtain ⟨a, xs, rfl, hs, ha⟩ := dp_tuple dp
      exact .inr ⟨a, rfl, ⟨xs, (tup_same c.sub hs).sq⟩, p B1 H1 O1 _ .refl c .refl (serves_tup hs.sq ha)⟩
end
end DL
end

section
namespace DL
open PySem PySem.Spec PyProof.Rows L2
section
variable {K : PySem.W.Frag} {mg : Str → Option Value} {B H B' H' : Hp} {xs : List Rs} {vs : List V} {O O' : Addr → Prop}
theorem start_get {N : List Str} {k : Nat} (h : k < vs.length) : (start N vs)[k]? = (vs.map some)[k]? := by
  unfold L2.start
  rw [List.getElem?_append_left (by simpa using h)]
theorem pad_get {r : Ro} {m k : Nat} {x : Sl} (h : (r ++ List.replicate m Sl.non)[k]? = some x) (n : x ≠ .non) : r[k]? = some x := by
  by_cases hk : k < r.length
  · rw [List.getElem?_append_left hk] at h; exact h
  · rw [List.getElem?_append_right (by omega), List.getElem?_replicate] at h
    split at h
    · cases h; exact absurd rfl n
    · cases h
theorem Con.pad {N : List Str} (c : Con K B H (vs.map some) (xs.map toSl) O) (hN : vs.length ≤ N.length) : Con K B H (start N vs) (xs.map toSl ++ List.replicate (N.length - vs.length) .non) O := by
  have hl : xs.length = vs.length := by have := c.len; simpa using this
  have hs : ∀ (k : Nat) (x : Sl), x ≠ .non → (xs.map toSl ++ List.replicate (N.length - vs.length) Sl.non)[k]? = some x → (xs.map toSl)[k]? = some x ∧ (start N vs)[k]? = (vs.map some)[k]? := fun k x n e => by
    have e' := pad_get e n
    refine ⟨e', start_get ?_⟩
    have := (List.getElem?_eq_some_iff.mp e').1
    rw [List.length_map] at this
    omega
  refine ⟨⟨c.sub, c.off, c.liv, ?_, fun i b d e => ?_, fun i b ct e => ?_, fun i j b c1 b' c2 l l' F F' ne e1 e2 s1 s2 o1 o2 => ?_⟩, fun i j k h => ?_⟩
  · unfold L2.start
    simp [hl]
  · obtain ⟨e', q⟩ := hs i _ (by simp) e
    rw [q]
    exact c.frz i b d e'
  · obtain ⟨e', q⟩ := hs i _ (by simp) e
    rw [q]
    exact c.own i b ct e'
  · obtain ⟨e1', q1⟩ := hs i _ (by simp) e1
    obtain ⟨e2', q2⟩ := hs j _ (by simp) e2
    rw [q1] at s1
    rw [q2] at s2
    exact c.sep i j b c1 b' c2 l l' F F' ne e1' e2' s1 s2 o1 o2
  · obtain ⟨h', _⟩ := hs i _ (by simp) h
    rw [List.getElem?_map] at h'
    cases q : xs[i]? with
    | none => rw [q] at h'; cases h'
    | some x => rw [q] at h'; cases x <;> cases h'
theorem outs_len : ∀ {xs : List Rs} {k : Nat} {r : Ro}, (outs xs k r).length = xs.length
  | [], _, _ => rfl
  | .fz _ :: xs, k, r => by simp [outs, outs_len]
  | .ow _ :: xs, k, r => by simp [outs, outs_len]
theorem outs_get {r : Ro} {c : Ct} : ∀ {xs : List Rs} {k j : Nat}, xs[j]? = some (Rs.ow c) → (outs xs k r)[j]? = some (match r[k + j]? with
      | some (.own _ c') => .ow c'
      | some (.frz _ d) => .fz d
      | _ => .ow c)
  | [], _, _, h => by simp at h
  | x :: xs, k, 0, h => by
    simp at h
    subst h
    simp only [outs, Nat.add_zero, List.getElem?_cons_zero]
    try rfl
  | x :: xs, k, j + 1, h => by
    have ih := outs_get (r := r) (c := c) (xs := xs) (k := k + 1) (j := j) (by simpa using h)
    rw [show k + 1 + j = k + (j + 1) by omega] at ih
    cases x <;> simpa only [outs, List.getElem?_cons_succ] using ih
/-- the arguments behind a def's body -/
theorem exit_con {σ0 σ' : L2.St} {r' : Ro} {m : Nat} (c : Con K B H (vs.map some) (xs.map toSl) O) (sB : Same B B') (h0 : ∀ k, k < vs.length → σ0[k]? = (vs.map some)[k]?) (c' : Con K B' H' σ' r' O') (b : Bor (xs.map toSl ++ List.replicate m .non) σ0 r' σ') :
    Con K B' H' (vs.map some) (List.zipWith exitSl xs (outs xs 0 r')) O' := by
  have hl : xs.length = vs.length := by have := c.len; simpa using this
  -- what stands at each place
  have at_ : ∀ (k : Nat) (x : Sl), (List.zipWith exitSl xs (outs xs 0 r'))[k]? = some x → (∃ d, x = .frz false d ∧ (xs.map toSl)[k]? = some (.frz false d)) ∨ (r'[k]? = some x ∧ σ'[k]? = (vs.map some)[k]?) := by
    intro k x e
    rw [List.getElem?_zipWith] at e
    cases q : xs[k]? with
    | none => rw [q] at e; cases e
    | some y =>
      rw [q] at e
      have hk : k < xs.length := (List.getElem?_eq_some_iff.mp q).1
      cases y with
      | fz d =>
        cases q2 : (outs xs 0 r')[k]? with
        | none => rw [q2] at e; cases e
        | some z =>
          rw [q2] at e
          cases e
          exact .inl ⟨d, rfl, by rw [List.getElem?_map, q]; rfl⟩
      | ow ct =>
        rw [outs_get (c := ct) q, Nat.zero_add] at e
        have hr : (xs.map toSl ++ List.replicate m Sl.non)[k]? = some (Sl.own true ct) := by
          rw [List.getElem?_append_left (by simpa using hk), List.getElem?_map, q]; rfl
        obtain ⟨⟨y, h1, h2⟩, h3⟩ := b k _ hr rfl
        refine .inr ⟨?_, by rw [h3]; exact h0 k (by omega)⟩
        rw [h1] at e ⊢
        cases y with
        | non => cases h2
        | al _ _ => cases h2
        | frz b2 d =>
          have h2 : b2 = true := h2
          subst h2
          exact e
        | own b2 c2 =>
          have h2 : b2 = true := h2
          subst h2
          exact e
  refine ⟨⟨c'.sub, c'.off, c'.liv, by rw [List.length_zipWith, outs_len, Nat.min_self, hl, List.length_map], fun i b d e => ?_, fun i b ct e => ?_, fun i j b c1 b' c2 l l' F F' ne e1 e2 s1 s2 o1 o2 => ?_⟩, fun i j k h => ?_⟩
  · rcases at_ i _ e with ⟨d', h1, h2⟩ | ⟨h1, h2⟩
    · cases h1
      obtain ⟨v, g1, g2⟩ := c.frz i false d h2
      exact ⟨v, g1, dp_same sB g2⟩
    · rw [← h2]
      exact c'.frz i b d h1
  · rcases at_ i _ e with ⟨d', h1, h2⟩ | ⟨h1, h2⟩
    · cases h1
    · rw [← h2]
      exact c'.own i b ct h1
  · rcases at_ i _ e1 with ⟨d', h1, h2⟩ | ⟨h1, h2⟩
    · cases h1
    · rcases at_ j _ e2 with ⟨d', h3, h4⟩ | ⟨h3, h4⟩
      · cases h3
      · rw [← h2] at s1
        rw [← h4] at s2
        exact c'.sep i j b c1 b' c2 l l' F F' ne h1 h3 s1 s2 o1 o2
  · rw [List.getElem?_zipWith] at h
    cases q : xs[i]? with
    | none => rw [q] at h; cases h
    | some x =>
      cases q2 : (outs xs 0 r')[i]? with
      | none => rw [q, q2] at h; cases h
      | some y => rw [q, q2] at h; cases x <;> first | cases h | (cases y <;> cases h)
/-- a def's body read from its promise -/
theorem def_read {N : List Str} {n : Nat} {body : S} {Q : VK} {E : XK} (hn : n ≤ N.length) (h : spD K mg (defSem n N.length body) n vs H Q E) :
    tS ⟨K, mg⟩ (fun c d _ H => E c d H) body { nx := fun _ H' => Q .non H', rt := Q } (start N vs) H := by
  obtain ⟨hv, B, O, xs, c, o, ys, e, hy, p⟩ := h
  have hl : xs.length = vs.length := by have := c.len; simpa using this
  unfold defSem at e
  rw [if_pos (by omega)] at e
  have cp := c.pad (N := N) (by omega)
  rw [hv] at cp
  have ex : ∀ {B' H' O' σ' r'}, Same B B' → Con K B' H' σ' r' O' → Bor (xs.map toSl ++ List.replicate (N.length - n) .non) (start N vs) r' σ' → Con K B' H' (vs.map some) (List.zipWith exitSl xs (outs xs 0 r')) O' :=
    fun sB c' b => exit_con c sB (fun k hk => start_get hk) c' b
  by_cases hz : allFz xs = true
  · -- nothing was lent
    have noOwn : ∀ (ys : List Rs), allFz ys = true → ∀ (m i : Nat) b ct, (ys.map toSl ++ List.replicate m Sl.non)[i]? = some (Sl.own b ct) → False := by
      intro ys
      induction ys with
      | nil =>
        intro _ m i b ct h
        simp [List.getElem?_replicate] at h
      | cons y ys ih =>
        intro h m i b ct h2
        cases y with
        | fz d =>
          cases i with
          | zero => cases h2
          | succ i => exact ih h m i b ct (by simpa using h2)
        | ow c => cases h
    have cp0 := cp.shrink (O' := fun _ => False) (fun _ h => h.elim) fun i b ct l F e _ _ => (noOwn xs hz _ i b ct e).elim
    have up : ∀ {B' H' : Hp} {O' : Addr → Prop}, Step B H (fun _ => False) B' H' O' → Step B H O B' H' O' := fun s => ⟨s.sB, fun a o h _ => s.keep a o h (fun z => z), s.live, fun a h _ => s.nB a h (fun z => z), fun a h => (s.nO a h).elim (fun z => z.elim) .inr⟩
    refine ⟨B, _, _, cp0, ?_⟩
    cases q : body (xs.map toSl ++ List.replicate (N.length - n) .non) with
    | none => rw [q] at e; cases e
    | some z =>
      obtain ⟨so, r'⟩ := z
      rw [q] at e
      refine ⟨so, r', rfl, ?_⟩
      cases so with
      | nx =>
        cases e
        exact fun B' H' O' σ' s c' b => p B' H' O' .non (up s) (ex s.sB c' b) .non
      | ret v =>
        cases e
        exact fun B' H' O' σ' x s c' b rv => p B' H' O' x (up s) (ex s.sB c' b) rv
      | rets i =>
        simp only [handOn] at e
        split at e
        · rename_i c q2
          rw [if_pos hz] at e
          cases e
          intro B' H' O' σ' x s c' b hx
          obtain ⟨l, F, h1, h2, h3⟩ := c'.own i _ _ q2
          rw [hx] at h1
          cases h1
          have c2 := c'.release q2 hx h2
          have b2 : Bor (xs.map toSl ++ List.replicate (N.length - n) .non) (start N vs) (r'.set i .non) σ' := b.trans (bor_set q2 fun z => by cases z)
          refine p B' H' (fun a => O' a ∧ a ∉ F) _ ⟨s.sB, fun a o h _ => s.keep a o h (fun z => z), s.live, fun a h _ => s.nB a h (fun z => z), fun a h => (s.nO a h.1).elim (fun z => z.elim) .inr⟩ (ex s.sB c2 b2) ⟨l, F, rfl, h2, fun a ha => ⟨?_, c'.off a (h3 a ha), fun z => z.2 ha⟩⟩
          exact (s.nO a (h3 a ha)).elim (fun z => z.elim) (fun z => z)
        · cases e
      | exc x =>
        cases e
        exact fun B' H' O' σ' k dx s c' b rx => p B' H' O' k dx (up s) (ex s.sB c' b) rx
      | brk => cases e
      | cnt => cases e
  refine ⟨B, _, O, cp, ?_⟩
  cases q : body (xs.map toSl ++ List.replicate (N.length - n) .non) with
  | none => rw [q] at e; cases e
  | some z =>
    obtain ⟨so, r'⟩ := z
    rw [q] at e
    refine ⟨so, r', rfl, ?_⟩
    cases so with
    | nx =>
      cases e
      exact fun B' H' O' σ' s c' b => p B' H' O' .non s (ex s.sB c' b) .non
    | ret v =>
      cases e
      exact fun B' H' O' σ' x s c' b rv => p B' H' O' x s (ex s.sB c' b) rv
    | rets i =>
      simp only [handOn] at e
      split at e
      · rw [if_neg hz] at e
        cases e
      · cases e
    | exc x =>
      cases e
      exact fun B' H' O' σ' k dx s c' b rx => p B' H' O' k dx s (ex s.sB c' b) rx
    | brk => cases e
    | cnt => cases e
end
/-- a def keeps its promise by its body's meaning -/
theorem def_ok {P : Program} {w : World} {K : PySem.W.Frag} {mg : Str → Option Value} {base : Heap} {x qual : Str} {st : Stmt} {f : Addr} {fd : FuncData} {N ps : List Str} {k : Nat} {body : S} (F : Fun K x qual st f fd) (Sc : FnScope N ps (defScope st)) (hn : ps.length ≤ N.length)
    (hb : ∀ (cdv : Value) (A : Around) (outer : List Env) (s : Shared) (H : Hp) (E : XK), Room k (A.deeper (envOfC qual (defScope st) s.heap.objs.size f cdv)) →
      L2N.Takes (cxOf (L2N.CX P w) P w K mg base N qual (defScope st) f cdv A outer s H E) (fun c d _ H => E c d H) →
      DSs (cxOf (L2N.CX P w) P w K mg base N qual (defScope st) f cdv A outer s H E) (fun c d _ H => E c d H) (defBody st) body) :
    FnOk P w K mg base (L2N.CX P w) (k + 1) f fd ps (spD K mg (defSem ps.length N.length body) ps.length) := by
  obtain ⟨oc, od, kV, doc, pm, an, cdv, ct, osl, rfl, lk, hcd⟩ := F.ex
  exact fn_of lk hcd Sc (fun vs H Q E h => h.1) fun A outer s H vs Q E hr h => ⟨_, hb cdv A outer s H E hr (L2N.takes_of rfl rfl rfl rfl), def_read hn h⟩
end DL
end

section
namespace DL
open PySem
/-- the list in slot i (or looked at by it) is changed -/
def updSl (r : Ro) (i : Nat) (ds : List D) : Ro := match r[i]? with
  | some (.own b _) => r.set i (.own b (.lst ds))
  | some (.al j k) => match r[j]? with
    | some (.own b (.ll rows)) => r.set j (.own b (.ll (rows.set k ds)))
    | _ => r
  | _ => r
def listAt (r : Ro) (i : Nat) : Option (List D) := match look2 r (.slot i) with
  | some (.ow (.lst ds)) => some ds
  | _ => none
/-- x.m(..) that changes the list x -/
def mMut (g : List D → List D → Option (List D × D)) (i : Nat) (ms : List (M AV)) : M RV := fun r => match listAt r i with
  | none => none
  | some _ => (oL ms).bind (fun as => fun r => match listAt r i, looks2 r as with
    | some ds, some xs => match dataAll xs with
      | some es => (g ds es).map fun p => (.ok (.val p.2), updSl r i p.1)
      | none => none
    | _, _ => none) r
def gAppend : List D → List D → Option (List D × D)
  | ds, [d] => if ds.length < lineD then some (ds ++ [d], .none) else none
  | _, _ => none
def gInsert : List D → List D → Option (List D × D)
  | ds, [.int i, d] => if ds.length < lineD ∧ 0 ≤ i ∧ i < 2 ^ 63 then some (ds.take i.toNat ++ [d] ++ ds.drop i.toNat, .none) else none
  | _, _ => none
/-- x[i] = e of a list -/
def sSub (i : Nat) (me : M RV) (mi : M AV) : S := sEx (mFz me) fun d => fun r => match listAt r i with
  | none => none
  | some _ => sEx mi (fun a => fun r => match listAt r i, (look2 r a).bind Rs.data with
    | some ds, some (.int n) => (ixD ds.length n).map fun k => (.nx, updSl r i (ds.set k d))
    | _, _ => none) r
/-- x = rows[e], a look into a list of lists -/
def sAl (i j : Nat) (mi : M AV) : S := fun r => match r[j]? with
  | some (.own _ (.ll _)) => sEx mi (fun a => fun r => match r[j]?, (look2 r a).bind Rs.data, r[i]? with
    | some (.own _ (.ll rows)), some (.int n), some x => if i ≠ j ∧ putSl.pinnedB x = false then (ixD rows.length n).map fun k => (.nx, r.set i (.al j k)) else none
    | _, _, _ => none) r
  | _ => none
/-- a, b = e, f -/
def sPar (i j : Nat) (m n : M RV) : S := sEx (mFz m) fun d => sEx (mFz n) fun e => sSeq (putSl i (.val d)) (putSl j (.val e))
/-- comprehensions of new lists -/
def lcL (vs : List Nat) (set : D → S) (t : M Bool) (e : M RV) : List D → List (List D) → Ro → Option (List (List D) × Ro)
  | [], acc, r => some (acc, r)
  | d :: ds, acc, r => match set d r with
    | some (.nx, r1) => match t r1 with
      | some (.ok true, r2) => match e r2 with
        | some (.ok (.new (.lst x)), r3) => if acc.length < lineD then lcL vs set t e ds (acc ++ [x]) (wipeR r3 vs) else none
        | _ => none
      | some (.ok false, r2) => lcL vs set t e ds acc (wipeR r2 vs)
      | _ => none
    | _ => none
def mLcL (vs : List Nat) (mi : M (List D)) (set : D → S) (t : M Bool) (e : M RV) : M RV := mi.bind fun ds => fun r =>
  if anyPin r vs then none else (lcL vs set t e ds [] (wipeR r vs)).map fun p => (.ok (.new (.ll p.1)), p.2)
/-- x[lo:hi] -/
def sIxD (n d : Nat) : Option Int → Nat
  | none => d
  | some v => if v < 0 then (v + n).toNat else min v.toNat n
def cutD {α : Type} (xs : List α) (lo hi : Option Int) : List α := (xs.drop (sIxD xs.length 0 lo)).take (sIxD xs.length xs.length hi - sIxD xs.length 0 lo)
def scrL : List (D × D) → Option (List Int)
  | [] => some []
  | (.int n, .none) :: r => (scrL r).map (n :: ·)
  | _ => none
/-- the law's script: a dict here, marked by its first entry -/
def scrOf : List (D × D) → Option (List Int)
  | (.none, .none) :: r => scrL r
  | _ => none
def gCut (lo hi : Option Int) : Rs → Option RV := fun a => match a.data with
  | some (.list xs) => some (.new (.lst (cutD xs lo hi)))
  | some (.tuple xs) => some (.val (.tuple (cutD xs lo hi)))
  | some (.dict kvs) => (scrOf kvs).map fun ns => .new (.lst ((cutD ns lo hi).map .int))
  | _ => none
/-- a bound -/
def mBd : Option (M AV) → M (Option Int)
  | none => M.ret none
  | some m => m.bind fun a => fun r => match (look2 r a).bind Rs.data with
    | some (.int n) => some (.ok (some n), r)
    | _ => none
def mSl (m : M AV) (lo hi : Option (M AV)) : M RV := m.bind fun a => (mBd lo).bind fun l => (mBd hi).bind fun h => fun r => ((look2 r a).bind (gCut l h)).map fun v => (.ok v, r)
end DL
end

section
namespace DL
open PySem PySem.Spec PyProof.Rows L2
theorem listAt_look {r : Ro} {i : Nat} {ds : List D} (h : listAt r i = some ds) : look2 r (.slot i) = some (.ow (.lst ds)) := by
  unfold listAt at h
  split at h
  · rename_i es q; cases h; exact q
  · cases h
section
variable {K : PySem.W.Frag} {B H : Hp} {σ : L2.St} {r : Ro} {O : Addr → Prop}
theorem rows_set {a : Addr} {xs' : List V} {ds' : List D} : ∀ {as : List Addr} {rows : List (List D)} {k : Nat}, RowsAt K B H as rows → as[k]? = some a → as.Nodup → DqAll K B xs' ds' → RowsAt K B (upd H a (.lst xs')) as (rows.set k ds')
  | _, _, _, .nil, _, _, _ => .nil
  | x :: xs, y :: ys, 0, .cons hx t, g, nd, d => by
    simp at g
    subst g
    exact .cons ⟨xs', upd_same, d⟩ (rowsAt_same (Same.refl _) t fun z hz => upd_ne fun e => (List.nodup_cons.mp nd).1 (e ▸ hz))
  | x :: xs, y :: ys, k + 1, .cons hx t, g, nd, d => by
    have g' : xs[k]? = some a := by simpa using g
    have nx : x ≠ a := fun e => (List.nodup_cons.mp nd).1 (e ▸ List.mem_of_getElem? g')
    refine .cons ?_ (rows_set t g' (List.nodup_cons.mp nd).2 d)
    obtain ⟨ws, w1, w2⟩ := hx
    exact ⟨ws, by rw [upd_ne nx]; exact w1, w2⟩
theorem bor_same {i : Nat} {x y : Sl} (h : r[i]? = some x) (hp : pinned x = true → pinned y = true) : Bor r σ (r.set i y) σ := bor_set h hp
/-- the list that slot i tells of, and what a change of it does -/
theorem Con.mut (c : Con K B H σ r O) {i : Nat} {ds : List D} (h : listAt r i = some ds) : ∃ l xs, σ[i]? = some (some (V.ref l)) ∧ H l = some (.lst xs) ∧ DqAll K B xs ds ∧
    ∀ xs' ds', DqAll K B xs' ds' → Con K B (upd H l (.lst xs')) σ (updSl r i ds') O ∧ Step B H O B (upd H l (.lst xs')) O ∧ Bor r σ (updSl r i ds') σ := by
  have h := listAt_look h
  have live : ∀ (l : Addr) o, ∀ a, H a ≠ none → upd H l o a ≠ none := fun l o a ha => by
    by_cases e : a = l
    · subst e; rw [upd_same]; simp
    · rw [upd_ne e]; exact ha
  simp only [look2] at h
  split at h
  · cases h
  · rename_i b ct q
    cases h
    obtain ⟨l, F, h1, o, h3⟩ := c.own i b _ q
    obtain ⟨rfl, xs, h4, h5⟩ := id o
    refine ⟨l, xs, h1, h4, h5, fun xs' ds' d => ?_⟩
    obtain ⟨c1, s1⟩ := c.change (ct' := .lst ds') (F' := [l]) (H' := upd H l (.lst xs')) q h1 o (fun a ha => upd_ne (by simpa using ha)) ⟨rfl, xs', upd_same, d⟩ (fun a ha => ha) (live l _) (fun rows e => by cases e)
    have e : updSl r i ds' = r.set i (.own b (.lst ds')) := by unfold updSl; rw [q]
    rw [e]
    exact ⟨c1, s1, bor_same q fun z => z⟩
  · rename_i j k q
    split at h
    · rename_i b rows q2
      cases q3 : rows[k]? with
      | none => rw [q3] at h; cases h
      | some es =>
        rw [q3] at h
        cases h
        obtain ⟨L, F, h1, o, h3⟩ := c.own j b _ q2
        obtain ⟨as, rfl, h2, nd, ra⟩ := id o
        obtain ⟨a, g1, g2⟩ := c.al i j k q b rows L as q2 h1 h2
        obtain ⟨a', g3, vs, g4, g5⟩ := paired_at ra q3
        rw [g1] at g3; cases g3
        have hm : a ∈ as := List.mem_of_getElem? g1
        have nL : L ≠ a := fun e => (List.nodup_cons.mp nd).1 (e ▸ hm)
        refine ⟨a, vs, g2, g4, g5, fun xs' ds' d => ?_⟩
        have ra' := rows_set (xs' := xs') ra g1 (List.nodup_cons.mp nd).2 d
        obtain ⟨c1, s1⟩ := c.change (ct' := .ll (rows.set k ds')) (F' := L :: as) (H' := upd H a (.lst xs')) q2 h1 o (fun x hx => upd_ne fun e => hx (by rw [e]; simp [hm]))
          ⟨as, rfl, by rw [upd_ne nL]; exact h2, nd, ra'⟩ (fun a ha => ha) (live a _) (fun rows' e => .inr ⟨upd_ne nL, rows, rfl⟩)
        have e : updSl r i ds' = r.set j (.own b (.ll (rows.set k ds'))) := by unfold updSl; rw [q]; simp only [q2]
        rw [e]
        exact ⟨c1, s1, bor_same q2 fun z => z⟩
    · cases h
  · cases h
end
/-- a method that changes its list, by values -/
def MutD (X : Cx) (id : String) (g : List D → List D → Option (List D × D)) : Prop :=
  MtR X id fun x vs H Q => ∃ B l xs ds es ds' d, Same B H ∧ x = .ref l ∧ H l = some (.lst xs) ∧ DqAll X.K B xs ds ∧ DqAll X.K B vs es ∧ g ds es = some (ds', d) ∧ ∀ xs' v, DqAll X.K B xs' ds' → Dq X.K B v d → Q v (upd H l (.lst xs'))
section
variable {X : Cx} {W : WX}
theorem mut_run {g : List D → List D → Option (List D × D)} {i : Nat} {as : List AV} {B : Hp} {r : Ro} {O : Addr → Prop} {σ : L2.St} {H : Hp} {vs : List V} {Q : VK} {l0 : Addr} (hs : σ[i]? = some (some (V.ref l0)))
    (h : At (Cx.g X) W (fun r => match listAt r i, looks2 r as with
    | some ds, some xs => match dataAll xs with
      | some es => (g ds es).map fun p => (.ok (.val p.2), updSl r i p.1)
      | none => none
    | _, _ => none) (rV (Cx.g X)) B r O σ H Q) (x : Paired (AvR X.K B σ) as vs) :
    ∃ B l xs ds es ds' d, Same B H ∧ V.ref l0 = .ref l ∧ H l = some (.lst xs) ∧ DqAll X.K B xs ds ∧ DqAll X.K B vs es ∧ g ds es = some (ds', d) ∧ ∀ xs' v, DqAll X.K B xs' ds' → Dq X.K B v d → Q v (upd H l (.lst xs')) := by
  obtain ⟨c, o, r', e, p⟩ := h
  simp only at e
  split at e
  · rename_i ds xs q1 q2
    split at e
    · rename_i es q3
      cases q4 : g ds es with
      | none => rw [q4] at e; cases e
      | some z =>
        obtain ⟨ds', d⟩ := z
        rw [q4] at e
        cases e
        obtain ⟨l, ys, h1, h2, h3, h4⟩ := c.mut q1
        rw [hs] at h1; cases h1
        refine ⟨B, _, ys, ds, es, ds', d, c.sub, rfl, h2, h3, dataAll_of q3 (c.looks2_ q2 x), q4, fun xs' v dx dv => ?_⟩
        obtain ⟨c1, s1, b1⟩ := h4 xs' ds' dx
        exact p B _ O v s1 c1 b1 dv
    · cases e
  · cases e
/-- x.m(e, ..) -/
theorem de_mut {name : Str} {id : String} {x e : Expr} {es : List Expr} {apos cpos : Pos} {g : List D → List D → Option (List D × D)} {i : Nat} {ms : List (M AV)} (pa : PlainAttrs "list") (slot : Slot "list" name id) (hty : typeOf (.builtin id) = pure (.type "method_descriptor"))
    (hm : MutD X id g) (ho : PE X x (tVar i)) (ha : DA X W (e :: es) (oL ms))
    (hbase : attributeBase x name X.env (eval x X.env) = eval x X.env := by rfl)
    (hfew : ((backTo cpos (starEach (e :: es) X.env)).all (fun x => !x.1) && (backToKw cpos (keywordEach [] X.env)).all (fun x => x.1.isSome)
      && decide ((e :: es).length + ([] : List Keyword).length + (if ([] : List Keyword).isEmpty then 0 else 1) < 30)) = true := by rfl)
    (hline : (apos.endLine == cpos.line) = true := by rfl) (hs : starEach (e :: es) X.env = (false, eval e X.env) :: starEach es X.env := by rfl) (hplain : (backTo cpos (starEach es X.env)).any (·.1) = false := by rfl) :
    DE X W (.Call (.Attribute x name apos) (e :: es) [] cpos) (mMut g i ms) := pe_weak (pe_bm pa slot hty hm ho ha hbase hfew hline hs hplain) fun σ H Q ⟨B, r, O, c, o, r', e, p⟩ => by
  unfold mMut at e
  split at e
  · cases e
  · rename_i ds q
    obtain ⟨l, ys, h1, h2, h3, h4⟩ := c.mut q
    refine ⟨.ref l, h1, .inl ⟨rfl, ys, .of h2⟩, tG.of ((At.bind (R := rL (Cx.g X)) ⟨c, o, r', e, p⟩ later_rV).mono ?_)⟩
    rintro vs H1 ⟨as, B1, r1, O1, s1, x1, h5⟩
    exact mut_run h1 h5 x1
theorem md_append : MutD X "list.append" gAppend := by
  intro pins s σ H x vs v us Q I rx rs h
  obtain ⟨B, l, xs, ds, es, ds', d, sb, rfl, hH, hd, he, hg, q⟩ := h
  unfold gAppend at hg
  split at hg
  · rename_i d0
    split at hg
    · rename_i hl
      cases hg
      cases he with
      | cons h1 t =>
        cases t
        exact mt_append pins s σ H _ _ v us Q I rx rs ⟨l, xs, _, rfl, rfl, hH, by rw [hd.length, ← line_eq]; exact hl, q _ _ (hd.append (.cons h1 .nil)) .non⟩
    · cases hg
  · cases hg
theorem md_insert : MutD X "list.insert" gInsert := by
  intro pins s σ H x vs v us Q I rx rs h
  obtain ⟨B, l, xs, ds, es, ds', d, sb, rfl, hH, hd, he, hg, q⟩ := h
  unfold gInsert at hg
  split at hg
  · rename_i i d0
    split at hg
    · rename_i hl
      cases hg
      cases he with
      | cons h1 t =>
        cases t with
        | cons h2 t =>
          cases t
          cases dp_int h1
          exact mt_insert pins s σ H _ _ v us Q I rx rs ⟨l, xs, i, _, rfl, rfl, hH, by rw [hd.length, ← line_eq]; exact hl.1, hl.2.1, hl.2.2, q _ _ (((hd.take _).append (.cons h2 .nil)).append (hd.drop _)) .non⟩
    · cases hg
  · cases hg
end
end DL
end

section
namespace DL
open PySem PySem.Spec PyProof.Rows L2
section
variable {X : Cx} {W : WX}
theorem AtS.exF {k : D → S} {m : M RV} {B : Hp} {r : Ro} {O : Addr → Prop} {σ : L2.St} {H : Hp} {D' : Ends} (h : AtS (Cx.g X) W (sEx (mFz m) k) B r O σ H D') :
    At (Cx.g X) W m (rV (Cx.g X)) B r O σ H fun y H1 => ∃ a B1 r1 O1, Step B H O B1 H1 O1 ∧ Bor r σ r1 σ ∧ Dq X.K B1 y a ∧ Con X.K B1 H1 σ r1 O1 ∧ ∃ o r', k a r1 = some (o, r') ∧ PostS (Cx.g X) W B r O σ H D' r' o :=
  At.froz (h.ex (R := rD (Cx.g X)))
/-- x[i] = e -/
theorem ds_sub {x e ie : Expr} {tpos pos : Pos} {i : Nat} {me : M RV} {mi : M AV} (ho : PE X x (tVar i)) (he : DE X W e me) (hi : DO X W ie mi)
    (ha : ∀ v, assign (.Subscript x ie tpos) X.env v = (do
      let ov ← holding [v] (eval x X.env)
      let iv ← holding [v, ov] (eval ie X.env)
      standAt tpos
      holding [v, ov, iv] (setItem ov iv v)
      release [v, ov, iv] []) := by intro _; rfl) (hs : swapsWithSole [.Subscript x ie tpos] e pos.line X.env = pure false := by rfl) (hw : swappedStores [.Subscript x ie tpos] e X.env = pure none := by rfl)
    (h1 : (assignEach [.Subscript x ie tpos] X.env).map (·.2) = [assign (.Subscript x ie tpos) X.env] := by rfl) : DS X W (.Assign [.Subscript x ie tpos] e pos) (sSub i me mi) :=
  ps_weak (ps_asg he (pg_sub ho hi set_list ha) hs hw h1) fun D σ H ⟨B, r, O, h⟩ => by
    refine tG.of (h.exF.mono ?_)
    rintro y H1 ⟨d, B1, r1, O1, s1, b1, x1, c1, o, r', e1, p⟩
    split at e1
    · cases e1
    · rename_i ds0 q0
      obtain ⟨l, xs0, g1, g2, g3, _⟩ := c1.mut q0
      refine ⟨.ref l, g1, ?_⟩
      -- the index
      have h2 : AtS (Cx.g X) W (sEx mi (fun a => fun r => match listAt r i, (look2 r a).bind Rs.data with
        | some ds, some (.int n) => (ixD ds.length n).map fun k => (.nx, updSl r i (ds.set k d))
        | _, _ => none)) B1 r1 O1 σ H1 D := AtS.after s1 c1 b1 e1 p
      refine tG.of ((h2.ex (R := rA (Cx.g X))).mono ?_)
      rintro z H2 ⟨a, B2, r2, O2, s2, b2, x2, c2, o2, r3, e2, p2⟩
      split at e2
      · rename_i ds n q1 q2
        cases q3 : ixD ds.length n with
        | none => rw [q3] at e2; cases e2
        | some k =>
          rw [q3] at e2
          cases e2
          obtain ⟨l', xs, k1, k2, k3, k4⟩ := c2.mut q1
          rw [g1] at k1; cases k1
          obtain ⟨rs, q4, q5⟩ := Option.bind_eq_some_iff.mp q2
          have rz : z = .int n := rs_int (c2.look2_ q4 x2) q5
          obtain ⟨c3, s3, b3⟩ := k4 (xs.set k y) (ds.set k d) (k3.set (dp_same s2.sB x1) k)
          exact ⟨l, xs, n, k, rfl, rz, k2, by rw [k3.length]; exact q3, p2 B2 _ O2 σ (s2.trans s3) c3 (b2.trans b3)⟩
      · cases e2
/-- x = rows[e] -/
theorem ds_al {x : Str} {re ie : Expr} {pos pos' spos : Pos} {i j : Nat} {mi : M AV} (hN : X.N.Nodup) (hi : X.N[i]? = some x) (hx : Loc X.env.scope x) (ho : PE X re (tVar j)) (he : DO X W ie mi) (hp : PlainIx ie)
    (hs : swapsWith (.Subscript re ie spos) (some (.Name x pos')) pos.line X.env = pure false := by rfl)
    (hf : X.fn x = true ∨ X.env.scope.names.lookup x = some .local := by first | exact .inl rfl | exact .inr rfl | assumption) : DS X W (.Assign [.Name x pos'] (.Subscript re ie spos) pos) (sAl i j mi) :=
  ps_weak (ps_set hN hi hx (pe_ix ix_list ho he hp) hs hf) fun D σ H ⟨B, r, O, c0, o, r', e, p⟩ => by
    have e0 := e
    unfold sAl at e
    split at e
    · rename_i b0 rows0 q0
      obtain ⟨l, F, h1, h2, h3⟩ := c0.own j b0 _ q0
      refine ⟨.ref l, h1, ?_⟩
      have h4 : AtS (Cx.g X) W (sEx mi (fun a => fun r => match r[j]?, (look2 r a).bind Rs.data, r[i]? with
        | some (.own _ (.ll rows)), some (.int n), some x => if i ≠ j ∧ putSl.pinnedB x = false then (ixD rows.length n).map fun k => (.nx, r.set i (.al j k)) else none
        | _, _, _ => none)) B r O σ H D := ⟨c0, o, r', e, p⟩
      refine tG.of ((h4.ex (R := rA (Cx.g X))).mono ?_)
      rintro z H2 ⟨a, B2, r2, O2, s2, b2, x2, c2, o2, r3, e2, p2⟩
      split at e2
      · rename_i b rows n y q1 q2 q3
        split at e2
        · rename_i hne
          cases q4 : ixD rows.length n with
          | none => rw [q4] at e2; cases e2
          | some k =>
            rw [q4] at e2
            cases e2
            obtain ⟨rs, q5, q6⟩ := Option.bind_eq_some_iff.mp q2
            have rz : z = .int n := rs_int (c2.look2_ q5 x2) q6
            obtain ⟨l', F', g1, ⟨as, rfl, g2, nd, ra⟩, g3⟩ := c2.own j b _ q1
            rw [h1] at g1; cases g1
            have hlen : as.length = rows.length := ra.length
            have hk : k < as.length := by
              rw [hlen]
              unfold ixD at q4
              split at q4
              · split at q4
                · cases q4; omega
                · cases q4
              · split at q4
                · cases q4; omega
                · cases q4
            have ga : as[k]? = some as[k] := List.getElem?_eq_getElem hk
            have hil : i < σ.length := by rw [← c2.len]; exact (List.getElem?_eq_some_iff.mp q3).1
            have c3 := c2.setAl (a := as[k]) hil q1 h1 g2 ga hne.1
            have bor : Bor r2 σ (r2.set i (.al j k)) (σ.set i (some (.ref as[k]))) := fun i2 w hw pw => by
              have hj : i2 ≠ i := fun e => by
                subst e
                rw [q3] at hw; cases hw
                have := hne.2
                cases y <;> simp_all [pinned, putSl.pinnedB]
              exact ⟨⟨w, by rw [List.getElem?_set_ne (Ne.symm hj)]; exact hw, pw⟩, List.getElem?_set_ne (Ne.symm hj)⟩
            refine ⟨l, as.map V.ref, n, .ref as[k], rfl, rz, .of g2, ?_, p2 B2 H2 O2 _ s2 c3 (b2.trans bor)⟩
            show (ixN (as.map V.ref).length n).bind _ = _
            rw [List.length_map, hlen, show ixN rows.length n = some k from q4]
            show (as.map V.ref)[k]? = _
            rw [List.getElem?_map, ga]
            rfl
        · cases e2
      · cases e2
    · cases e
/-- a, b = e, f -/
theorem ds_par {i j : Nat} {x y : Str} {a b : Expr} {px py pt pos : Pos} {kt k2 pt2} {m n : M RV} (hc : X.calm = true) (hN : X.N.Nodup) (hi : X.N[i]? = some x) (hj : X.N[j]? = some y) (hij : i ≠ j)
    (hx : X.env.scope.names.lookup x = some .local) (hy : X.env.scope.names.lookup y = some .local) (ha : DE X W a m) (hb : DE X W b n)
    (hw : swappedStores [.Tuple [.Name x px, .Name y py] kt pt] (.Tuple [a, b] k2 pt2) X.env = pure (some [x, y]))
    (hs : swapsWithSole [.Tuple [.Name x px, .Name y py] kt pt] (.Tuple [a, b] k2 pt2) pos.line X.env = pure false := by rfl)
    (h1 : starEach [a, b] X.env = (false, eval a X.env) :: starEach [b] X.env := by rfl) (h2 : starEach [b] X.env = (false, eval b X.env) :: starEach [] X.env := by rfl) :
    DS X W (.Assign [.Tuple [.Name x px, .Name y py] kt pt] (.Tuple [a, b] k2 pt2) pos) (sPar i j m n) :=
  ps_weak (L2.ps_par hc hN hi hj hij hx hy (pa_cons ha (pa_cons hb pa_nil h2) h1) hw hs) fun D σ H ⟨B, r, O, h⟩ => by
    refine tG.of (h.exF.mono ?_)
    rintro v H1 ⟨d, B1, r1, O1, s1, b1, x1, c1, o, r', e1, p⟩
    have hh : AtS (Cx.g X) W (sEx (mFz n) fun e => sSeq (putSl i (.val d)) (putSl j (.val e))) B1 r1 O1 σ H1 D := AtS.after s1 c1 b1 e1 p
    refine tG.of (hh.exF.mono ?_)
    rintro w H2 ⟨e, B2, r2, O2, s2, b2, x2, c2, o2, r3, e2, p2⟩
    refine ⟨v, w, rfl, ?_⟩
    unfold sSeq at e2
    cases q : putSl i (.val d) r2 with
    | none => rw [q] at e2; cases e2
    | some z =>
      obtain ⟨o3, r4⟩ := z
      obtain ⟨rfl, O3, c3, b3, h3⟩ := put_ok (H0 := H1) c2 q (show RvR X.K H1 B2 H2 O2 (.val d) v from dp_same s2.sB x1) s2.live
      rw [q] at e2
      obtain ⟨rfl, O4, c4, b4, h4⟩ := put_ok (H0 := H1) c3 e2 (show RvR X.K H1 B2 H2 O3 (.val e) w from x2) s2.live
      exact p2 B2 H2 O4 _ (put_step (put_step s2 h3) h4) c4 (b2.trans (b3.trans b4))
end
end DL
end

section
namespace DL
open PySem PySem.Spec PyProof.Rows L2
section
variable {X : Cx} {W : WX}
theorem rowsAt_snoc {K : PySem.W.Frag} {B H : Hp} {l : Addr} {ds : List D} : ∀ {as : List Addr} {rows : List (List D)}, RowsAt K B H as rows → (∃ vs, H l = some (.lst vs) ∧ DqAll K B vs ds) → RowsAt K B H (as ++ [l]) (rows ++ [ds])
  | _, _, .nil, h => .cons h .nil
  | _, _, .cons a t, h => .cons a (rowsAt_snoc t h)
theorem lcL_read {lo : Bool} {mi : M (List D)} {vs ix : List Nat} {set : D → S} {t : M Bool} {me : M RV} (hix : ∀ j ∈ ix, j ∈ vs) {σ : L2.St} {H : Hp} {Q : VK} (h : tG (Cx.g X) W (mLcL vs mi set t me) (rV (Cx.g X)) σ H Q) :
    tLc (tG (Cx.g X) W mi (rI (Cx.g X) lo)) (gD X.K lo ix set) (tG (Cx.g X) W0 t rB) (tG (Cx.g X) W0 me (rV (Cx.g X))) vs σ H Q := by
  obtain ⟨B, r, O, h⟩ := h
  refine tG.of ((h.bind later_rV (R := rI (Cx.g X) lo)).mono ?_)
  rintro J H1 ⟨ds, B1, r1, O1, s1, x1, c1, o, r', e, p⟩
  intro D hD
  have sv : Serves X.K lo J B1 ds := x1
  simp only at e
  split at e
  · cases e
  · rename_i np
    have np : anyPin r1 vs = false := by simpa using np
    cases q : lcL vs set t me ds [] (wipeR r1 vs) with
    | none => rw [q] at e; cases e
    | some z =>
      obtain ⟨xs, rf⟩ := z
      rw [q] at e
      cases e
      obtain ⟨bD, nD, c2, s2⟩ := c1.lay (o := .lst []) hD
      have wl := wipe_length σ vs
      have wo : ∀ j : Nat, j ∉ vs → (wipe σ vs)[j]? = σ[j]? := fun j hj => wipe_out hj
      refine ⟨fun i m H' => m = ds.length - i ∧ i ≤ ds.length ∧ ∃ B' r2 O' acc ad, Step B1 H1 O1 B' H' O' ∧ Con X.K B' H' (wipe σ vs) r2 O' ∧ Clear r2 vs ∧ Bor r1 σ r2 (wipe σ vs) ∧ H' D = some (.lst (acc.map V.ref)) ∧ RowsAt X.K B' H' acc ad ∧ (D :: acc).Nodup ∧ (∀ a ∈ D :: acc, H1 a = none ∧ B' a = none ∧ ¬ O' a) ∧ lcL vs set t me (ds.drop i) ad r2 = some (xs, rf),
        ⟨ds.length, by simp, Nat.zero_le _, B1, _, O1, [], [], s2, c2.wiped wl wo, fun i hi x hx => wipeR_in hi hx, bor_wipe np wo, upd_same, .nil, by simp, fun a ha => (by simp at ha; subst ha; exact ⟨hD, bD, nD⟩), q⟩, ?_⟩
      rintro i m H2 ⟨rfl, hi2, B2, r2, O2, acc, ad, s3, c3, k3, b3, hA, hQ, nd2, fr2, e2⟩
      have same : Same B1 H2 := s3.sB.trans c3.sub
      by_cases hlt : i < ds.length
      · refine .inr ⟨sv.go i H2 hlt same, fun H' => i + 1 ≤ ds.length ∧ ∃ B' r2 O' acc ad, Step B1 H1 O1 B' H' O' ∧ Con X.K B' H' (wipe σ vs) r2 O' ∧ Clear r2 vs ∧ Bor r1 σ r2 (wipe σ vs) ∧ H' D = some (.lst (acc.map V.ref)) ∧ RowsAt X.K B' H' acc ad ∧ (D :: acc).Nodup ∧ (∀ a ∈ D :: acc, H1 a = none ∧ B' a = none ∧ ¬ O' a) ∧ lcL vs set t me (ds.drop (i + 1)) ad r2 = some (xs, rf),
          fun H' z => ⟨ds.length - (i + 1), by omega, rfl, z⟩, fun x H3 y => ?_⟩
        have ed : ds.drop i = ds[i] :: ds.drop (i + 1) := (List.drop_eq_getElem_cons hlt)
        rw [ed] at e2
        obtain ⟨B3, s4, c4, d4⟩ : ∃ B3, Step B2 H2 O2 B3 H3 O2 ∧ Con X.K B3 H3 (wipe σ vs) r2 O2 ∧ (Dq X.K B3 x ds[i] ∨ (lo = true ∧ Dw X.K B3 x ds[i])) := by
          rcases sv.yld i H2 x H3 ds[i] (List.getElem?_eq_getElem hlt) same y B2 s3.sB c3.sub with ⟨rfl, d⟩ | ⟨hlo, T, ws, hT, rfl, d⟩
          · exact ⟨B2, .refl, c3, .inl d⟩
          · obtain ⟨c5, s5⟩ := c3.layF (o := .tup ws) hT
            exact ⟨_, s5, c5, .inr ⟨hlo, d⟩⟩
        simp only [lcL] at e2
        cases q1 : set ds[i] r2 with
        | none => rw [q1] at e2; cases e2
        | some z1 =>
          obtain ⟨o1, r3⟩ := z1
          rw [q1] at e2
          cases o1 with
          | nx =>
            refine ⟨B3, r2, O2, ds[i], r3, c4, d4, q1, fun σ2 c5 b5 k5 l5 => ⟨?_, ?_⟩⟩
            · apply List.ext_getElem?
              intro j
              by_cases hj : j ∈ vs
              · by_cases hl : j < σ.length
                · have g : ∀ τ : L2.St, τ.length = σ.length → (wipe τ vs)[j]? = some none := fun τ hτ => by
                    cases qq : (wipe τ vs)[j]? with
                    | none => rw [List.getElem?_eq_none_iff, wipe_length] at qq; omega
                    | some w => cases w with
                      | none => rfl
                      | some w => exact absurd qq (wipe_in hj)
                  rw [g σ rfl, g σ2 (l5.trans wl)]
                · rw [List.getElem?_eq_none (by rw [wipe_length, l5, wl]; omega), List.getElem?_eq_none (by rw [wl]; omega)]
              · rw [wipe_out hj, wipe_out hj, k5 j (fun z => hj (hix j z)), wipe_out hj]
            · simp only at e2
              cases q2 : t r3 with
              | none => rw [q2] at e2; cases e2
              | some z2 =>
                obtain ⟨o2, r4⟩ := z2
                rw [q2] at e2
                refine ⟨B3, r3, O2, c5, o2, r4, q2, ?_⟩
                cases o2 with
                | exc x => cases e2
                | ok b =>
                  intro B5 H5 O5 b' s6 c6 b6 hb'
                  cases hb'
                  have s36 : Step B1 H1 O1 B5 H5 O5 := (s3.trans s4).trans s6
                  have k25 : ∀ a ∈ D :: acc, H5 a = H2 a ∧ B5 a = none ∧ ¬ O5 a := fun a ha => by
                    obtain ⟨f1, f2, f3⟩ := fr2 a ha
                    have hne : H2 a ≠ none := by
                      rcases List.mem_cons.mp ha with z | z
                      · rw [z, hA]; simp
                      · exact rowsAt_some hQ a z
                    have s46 := s4.trans s6
                    refine ⟨?_, s46.nB a hne f3 f2, fun z => ?_⟩
                    · cases qq : H2 a with
                      | none => exact absurd qq hne
                      | some w => exact s46.keep a w qq f3
                    · rcases s46.nO a z with z | z
                      · exact f3 z
                      · exact hne z
                  have hA5 : H5 D = some (.lst (acc.map V.ref)) := by rw [(k25 D (by simp)).1]; exact hA
                  have hQ5 : RowsAt X.K B5 H5 acc ad := rowsAt_same (s4.sB.trans s6.sB) hQ fun a ha => (k25 a (by simp [ha])).1
                  cases b with
                  | false =>
                    exact iteF ⟨hlt, B5, wipeR r4 vs, O5, acc, ad, s36, c6.wiped (wl.trans (l5.trans wl).symm |>.trans rfl) fun j hj => (k5 j fun z => hj (hix j z)).symm, fun i hi x hx => wipeR_in hi hx, bor_wipe2 np (b3.trans (b5.trans b6)) wo, hA5, hQ5, nd2, fun a ha => ⟨(fr2 a ha).1, (k25 a ha).2⟩, e2⟩
                  | true =>
                    simp only at e2
                    cases q3 : me r4 with
                    | none => rw [q3] at e2; cases e2
                    | some z3 =>
                      obtain ⟨o3, r5⟩ := z3
                      rw [q3] at e2
                      cases o3 with
                      | exc x => cases e2
                      | ok rv =>
                        cases rv with
                        | val d => cases e2
                        | new ct =>
                          cases ct with
                          | lst ds2 =>
                            simp only at e2
                            split at e2
                            · rename_i hz
                              refine iteT (tG.of ⟨c6, .ok (.new (.lst ds2)), r5, q3, fun B6 H6 O6 y6 s7 c7 b7 d7 => ?_⟩)
                              obtain ⟨l, F, rfl, ⟨rfl, vs2, w1, w2⟩, w3⟩ := d7
                              obtain ⟨n1, n2, n3⟩ := w3 l (by simp)
                              have k26 : ∀ a ∈ D :: acc, H6 a = H5 a ∧ B6 a = none ∧ ¬ O6 a ∧ a ≠ l := fun a ha => by
                                obtain ⟨f1, f2, f3⟩ := k25 a ha
                                have hne : H5 a ≠ none := by
                                  rcases List.mem_cons.mp ha with z | z
                                  · rw [z, hA5]; simp
                                  · exact rowsAt_some hQ5 a z
                                refine ⟨?_, s7.nB a hne f3 f2, fun z => ?_, fun z => hne (z ▸ n1)⟩
                                · cases qq : H5 a with
                                  | none => exact absurd qq hne
                                  | some w => exact s7.keep a w qq f3
                                · rcases s7.nO a z with z | z
                                  · exact f3 z
                                  · exact hne z
                              have hA6 : H6 D = some (.lst (acc.map V.ref)) := by rw [(k26 D (by simp)).1]; exact hA5
                              have nDl : D ≠ l := (k26 D (by simp)).2.2.2
                              have bD6 := (k26 D (by simp)).2.1
                              have nD6 := (k26 D (by simp)).2.2.1
                              refine ⟨acc.map V.ref, hA6, by rw [List.length_map, hQ5.length, ← line_eq]; exact hz, hlt, ?_⟩
                              have c8 : Con X.K B6 (upd H6 D (.lst (acc.map V.ref ++ [.ref l]))) σ2 r5 O6 := c7.mono (Same.refl _) (fun a w ha => by
                                by_cases z : a = D
                                · subst z; rw [bD6] at ha; cases ha
                                · rw [upd_ne z]; exact c7.sub a w ha) (fun a ha => upd_ne (show a ≠ D from fun z => nD6 (by rw [← z]; exact ha))) c7.off
                              have s37 := s36.trans s7
                              have s9 : Step B1 H1 O1 B6 (upd H6 D (.lst (acc.map V.ref ++ [.ref l]))) O6 := ⟨s37.sB, fun a w ha na => by
                                rw [upd_ne (ne_of_none ha hD)]
                                exact s37.keep a w ha na, fun a ha => by
                                by_cases z : a = D
                                · subst z; rw [upd_same]; simp
                                · rw [upd_ne z]; exact s37.live a ha, s37.nB, s37.nO⟩
                              have nl1 : H1 l = none := by
                                by_cases z : H1 l = none
                                · exact z
                                · exact absurd n1 (s36.live l z)
                              refine ⟨B6, wipeR r5 vs, O6, acc ++ [l], ad ++ [ds2], s9, c8.wiped (wl.trans (l5.trans wl).symm |>.trans rfl) fun j hj => (k5 j fun z => hj (hix j z)).symm, fun i hi x hx => wipeR_in hi hx, bor_wipe2 np (b3.trans (b5.trans (b6.trans b7))) wo, by rw [upd_same, List.map_append]; rfl, ?_, ?_, fun a ha => ?_, e2⟩
                              · refine rowsAt_snoc (rowsAt_same s7.sB hQ5 fun a ha => ?_) ⟨vs2, by rw [upd_ne nDl.symm]; exact w1, w2⟩
                                rw [upd_ne (show a ≠ D from fun z => (List.nodup_cons.mp nd2).1 (z ▸ ha))]
                                exact (k26 a (by simp [ha])).1
                              · have e : D :: (acc ++ [l]) = (D :: acc) ++ [l] := rfl
                                rw [e, List.nodup_append]
                                exact ⟨nd2, by simp, fun a ha b hb => by simp at hb; subst hb; exact (k26 a ha).2.2.2⟩
                              · have ha : a ∈ (D :: acc) ++ [l] := ha
                                rcases List.mem_append.mp ha with ha | ha
                                · exact ⟨(fr2 a ha).1, (k26 a ha).2.1, (k26 a ha).2.2.1⟩
                                · simp at ha
                                  subst ha
                                  exact ⟨nl1, n2, n3⟩
                            · cases e2
                          | _ => cases e2
          | _ => cases e2
      · have ei : i = ds.length := by omega
        subst ei
        rw [List.drop_length] at e2
        cases e2
        refine .inl ⟨sv.stop H2 same, p B2 H2 O2 (.ref D) s3 ?_ (fun i x hx px => ⟨(b3 i x hx px).1, rfl⟩) ⟨D, D :: acc, rfl, ⟨acc, rfl, hA, nd2, hQ⟩, fun a ha => fr2 a ha⟩⟩
        have c9 := c3.wiped (σ' := σ) wl.symm fun j hj => (wo j hj).symm
        rw [clear_wipe k3] at c9
        exact c9
theorem ds_setLcL {lo : Bool} {i : Nat} {y : Str} {py : Pos} {elt tg iter : Expr} {ifs : List Expr} {scope : Scope} {own : List (Str × Nat)} {pos spos : Pos} {mi : M (List D)} {ix : List Nat} {set : D → S} {t : M Bool} {me : M RV} (hc : X.calm = true) (hN : X.N.Nodup) (hy : X.N[i]? = some y) (hyl : X.env.scope.names.lookup y = some .local)
    (hsw : swapsWith (.ListComp elt [⟨tg, iter, ifs, 0⟩] scope pos) (some (.Name y py)) spos.line X.env = pure true) (hi : DI X W lo tg iter mi) (ok : BlkOk X.N X.env.scope scope own)
    (hg : ∀ (s : Shared) (H : Hp) (C : Addr) (cl : List (Str × Addr)) (fp : List Addr), DG (X.blk s H scope (compEnvC scope cl C X.env) fp) lo tg ix set) (ht : ∀ (s : Shared) (H : Hp) (C : Addr) (cl : List (Str × Addr)) (fp : List Addr), DTs (X.blk s H scope (compEnvC scope cl C X.env) fp) W0 ifs t)
    (he : ∀ (s : Shared) (H : Hp) (C : Addr) (cl : List (Str × Addr)) (fp : List Addr), DE (X.blk s H scope (compEnvC scope cl C X.env) fp) W0 elt me) (hix : ∀ j ∈ ix, j ∈ own.map (·.2)) (hs : ∀ x, foldedSetIterable iter X.env x = pure x := by intro _; rfl) :
    DS X W (.Assign [.Name y py] (.ListComp elt [⟨tg, iter, ifs, 0⟩] scope pos) spos) (sSet i (mLcL (own.map (·.2)) mi set t me)) :=
  ds_setG (ps_weak (ps_setLc (g := gD X.K lo ix set) (tt := tG (Cx.g X) W0 t rB) (te := tG (Cx.g X) W0 me (rV (Cx.g X))) hc hN hy hyl hsw hi ok hg ht he hs) fun D σ H h => lcL_read hix h)
end
end DL
end

section
namespace DL
open PySem
def gLen : List Rs → Option RV
  | [.ow (.ll rows)] => some (.val (.int rows.length))
  | [.ow (.dK kvs)] => some (.val (.int kvs.length))
  | [a] => match a.data with
    | some (.list xs) => some (.val (.int xs.length))
    | some (.tuple xs) => some (.val (.int xs.length))
    | some (.str x) => if x.length ≤ lineD then some (.val (.int x.length)) else none
    | _ => none
  | _ => none
def isTupD : D → Bool
  | .tuple _ => true
  | _ => false
def pairsD (xs ys : List D) : List D := List.zipWith (fun x y => .tuple [x, y]) xs ys
/-- zip(a, b): both lists or both tuples -/
def gZip : List Rs → Option (List D)
  | [.fz (.list xs), .fz (.list ys)] => some (pairsD xs ys)
  | [.fz (.tuple xs), .fz (.tuple ys)] => some (pairsD xs ys)
  | _ => none
inductive Ty where
  | int | bool | str | list | tuple | dict
  deriving DecidableEq
/-- isinstance(x, T) -/
def isTy : Ty → D → Option Bool
  | .int, .int _ => some true
  | .int, .bool _ => some true
  | .bool, .bool _ => some true
  | .str, .str _ => some true
  | .list, .list _ => some true
  | .tuple, .tuple _ => some true
  | .dict, .dict (p :: r) => if oneI (p :: r) then some true else none
  | _, .dict (p :: r) => if oneI (p :: r) then some false else none
  | .dict, .dict [] => some true
  | _, _ => some false
def anyTy : List Ty → D → Option Bool
  | [], _ => some false
  | t :: ts, d => match isTy t d with
    | some true => some true
    | some false => anyTy ts d
    | none => none
def mIsi (ts : List Ty) (m : M AV) : M RV := m.bind fun a => fun r => ((look2 r a).bind Rs.data).bind fun d => (anyTy ts d).map fun b => (.ok (.val (.bool b)), r)
/-- all(xs), any(xs) of a list of True, False -/
def boolsD : List D → Option (List Bool)
  | [] => some []
  | .bool b :: r => (boolsD r).map (b :: ·)
  | _ => none
def gAll : List Rs → Option RV
  | [a] => match a.data with
    | some (.list xs) => (boolsD xs).map fun bs => .val (.bool (bs.all id))
    | _ => none
  | _ => none
end DL
end

section
namespace DL
open PySem PySem.Spec PyProof.Rows L2
section
variable {X : Cx} {W : WX}
theorem At.opsL {lo : Bool} {ms : List (M AV)} {g : List Rs → Option (List D)} {B : Hp} {r : Ro} {O : Addr → Prop} {σ : L2.St} {H : Hp} {Q : It → Hp → Prop} (h : At (Cx.g X) W (mOpL g ms) (rI (Cx.g X) lo) B r O σ H Q) :
    At (Cx.g X) W (oL ms) (rL (Cx.g X)) B r O σ H fun vs H1 => ∃ B1 xs ds, Same B1 H1 ∧ Paired (RsR X.K B1 H1) xs vs ∧ g xs = some ds ∧ ∀ J, Serves X.K lo J B1 ds → Q J H1 := by
  refine (h.bind later_rI (R := rL (Cx.g X))).mono ?_
  rintro vs H1 ⟨as, B1, r1, O1, s1, x1, c, o, r', e, p⟩
  simp only at e
  split at e
  · cases e
  · rename_i xs q
    cases q2 : g xs with
    | none => rw [q2] at e; cases e
    | some ds =>
      rw [q2] at e
      cases e
      exact ⟨B1, xs, ds, c.sub, c.looks2_ q x1, q2, fun J sv => p B1 H1 O1 J .refl c .refl sv⟩
theorem okR_of {i : Int} (h : okR i = true) : -(2 ^ 62) ≤ i ∧ i < 2 ^ 62 := by
  unfold okR at h
  simpa using h
theorem di_rng1 {lb : Bool} {tg a : Expr} {p pos : Pos} {ma : M AV} (hg : Gl X "range") (hm : X.mg "range" = none) (ha : DO X W a ma) (hs : starEach [a] X.env = [(false, eval a X.env)] := by rfl) (hs2 : starEach [a] X.env = (false, eval a X.env) :: starEach [] X.env := by rfl) : DI X W lb tg (.Call (.Name "range" p) [a] [] pos) (mOpL gRng1 [ma]) :=
  pi_weak (pi_range1 hg hm (da_cons ha da_nil hs2) hs) fun σ H Q ⟨B, r, O, h⟩ => by
    refine tG.of (h.opsL.mono ?_)
    rintro vs H1 ⟨B1, xs, ds, sb, p, hg, q⟩
    unfold gRng1 at hg
    split at hg
    · rename_i j
      split at hg
      · rename_i hj
        cases hg
        cases p with
        | cons p1 p =>
          cases p
          cases dp_int p1
          obtain ⟨h1, h2⟩ := okR_of hj
          refine ⟨j, rfl, h1, h2, q _ ?_⟩
          have := serves_range (lb := lb) (K := X.K) (B0 := B1) (lo := 0) (hi := j)
          rwa [Int.sub_zero] at this
      · cases hg
    · cases hg
theorem pairs_get {xs ys : List D} {i : Nat} {d : D} (h : (pairsD xs ys)[i]? = some d) : ∃ x y, xs[i]? = some x ∧ ys[i]? = some y ∧ d = .tuple [x, y] := by
  unfold pairsD at h
  rw [List.getElem?_zipWith] at h
  cases q1 : xs[i]? with
  | none => rw [q1] at h; cases h
  | some x =>
    cases q2 : ys[i]? with
    | none => rw [q1, q2] at h; cases h
    | some y =>
      rw [q1, q2] at h
      cases h
      exact ⟨x, y, rfl, rfl, rfl⟩
theorem pairs_len (xs ys : List D) : (pairsD xs ys).length = min xs.length ys.length := by unfold pairsD; exact List.length_zipWith
theorem serves_zipL {K : PySem.W.Frag} {B0 : Hp} {a b : Addr} {xs ys : List V} {ds es : List D} (h1 : SqL K B0 a xs) (h2 : SqL K B0 b ys) (d1 : DqAll K B0 xs ds) (d2 : DqAll K B0 ys es) : Serves K true (Itz K a b) B0 (pairsD ds es) := by
  refine ⟨fun H s => ⟨xs, ys, s.seq h1, s.seq h2, by rw [d1.length, d2.length, pairs_len]; omega⟩, fun i H hi s => ?_, fun i H x H' e he s y B b1 b2 => ?_⟩
  · rw [pairs_len, ← d1.length, ← d2.length] at hi
    exact ⟨xs, ys, xs[i], ys[i], s.seq h1, s.seq h2, List.getElem?_eq_getElem (by omega), List.getElem?_eq_getElem (by omega)⟩
  · obtain ⟨T, x1, y1, rfl, hT, rfl, f1, f2⟩ := y
    obtain ⟨dx, dy, q1, q2, rfl⟩ := pairs_get he
    obtain ⟨v1, g1, g2⟩ := d1.get q1
    obtain ⟨v2, g3, g4⟩ := d2.get q2
    have e1 := f1 xs (s.seq h1)
    have e2 := f2 ys (s.seq h2)
    rw [g1] at e1; cases e1
    rw [g3] at e2; cases e2
    have sm := same_new (o := .tup [x1, y1]) (b2.free hT)
    exact .inr ⟨rfl, T, _, hT, rfl, T, _, _, rfl, rfl, .inl (.inl upd_same), .cons (dp_same (b1.trans sm) g2) (.cons (dp_same (b1.trans sm) g4) .nil)⟩
theorem serves_zipT {K : PySem.W.Frag} {B0 : Hp} {a b : Addr} {xs ys : List V} {ds es : List D} (h1 : SqT K B0 a xs) (h2 : SqT K B0 b ys) (d1 : DqAll K B0 xs ds) (d2 : DqAll K B0 ys es) : Serves K true (RZ.ItzT K a b) B0 (pairsD ds es) := by
  refine ⟨fun H s => ⟨xs, ys, sqt_same s h1, sqt_same s h2, by rw [d1.length, d2.length, pairs_len]; omega⟩, fun i H hi s => ?_, fun i H x H' e he s y B b1 b2 => ?_⟩
  · rw [pairs_len, ← d1.length, ← d2.length] at hi
    exact ⟨xs, ys, xs[i], ys[i], sqt_same s h1, sqt_same s h2, List.getElem?_eq_getElem (by omega), List.getElem?_eq_getElem (by omega)⟩
  · obtain ⟨T, x1, y1, rfl, hT, rfl, f1, f2⟩ := y
    obtain ⟨dx, dy, q1, q2, rfl⟩ := pairs_get he
    obtain ⟨v1, g1, g2⟩ := d1.get q1
    obtain ⟨v2, g3, g4⟩ := d2.get q2
    have e1 := f1 xs (sqt_same s h1)
    have e2 := f2 ys (sqt_same s h2)
    rw [g1] at e1; cases e1
    rw [g3] at e2; cases e2
    have sm := same_new (o := .tup [x1, y1]) (b2.free hT)
    exact .inr ⟨rfl, T, _, hT, rfl, T, _, _, rfl, rfl, .inl (.inl upd_same), .cons (dp_same (b1.trans sm) g2) (.cons (dp_same (b1.trans sm) g4) .nil)⟩
theorem di_zip {elts : List Expr} {kk : Nat} {tpos p pos : Pos} {a b : Expr} {ma mb : M AV} (hg : Gl X "zip") (hm : X.mg "zip" = none) (ha : DO X W a ma) (hb : DO X W b mb)
    (hs : starEach [a, b] X.env = (false, eval a X.env) :: starEach [b] X.env := by rfl) (hs4 : starEach [b] X.env = (false, eval b X.env) :: starEach [] X.env := by rfl) (hpl : (backTo pos (starEach [b] X.env)).any (·.1) = false := by rfl) :
    DI X W true (.Tuple elts kk tpos) (.Call (.Name "zip" p) [a, b] [] pos) (mOpL gZip [ma, mb]) :=
  pi_weak (RZ.pi_zipA hg hm (da_cons ha (da_cons hb da_nil hs4) hs) hs hpl) fun σ H Q ⟨B, r, O, h⟩ => by
    refine tG.of (h.opsL.mono ?_)
    rintro vs H1 ⟨B1, xs, ds, sb, p, hg, q⟩
    unfold gZip at hg
    split at hg
    · cases hg
      cases p with
      | cons p1 p =>
        cases p with
        | cons p2 p =>
          cases p
          obtain ⟨a, xs, rfl, h1, d1⟩ := dp_list p1
          obtain ⟨b, ys, rfl, h2, d2⟩ := dp_list p2
          exact ⟨a, b, xs, ys, rfl, .inl ⟨.of (sb _ _ h1), .of (sb _ _ h2), q _ (serves_zipL (.of h1) (.of h2) d1 d2)⟩⟩
    · cases hg
      cases p with
      | cons p1 p =>
        cases p with
        | cons p2 p =>
          cases p
          obtain ⟨a, xs, rfl, h1, d1⟩ := dp_tuple p1
          obtain ⟨b, ys, rfl, h2, d2⟩ := dp_tuple p2
          exact ⟨a, b, xs, ys, rfl, .inr ⟨(tup_same sb h1).sq, (tup_same sb h2).sq, q _ (serves_zipT h1.sq h2.sq d1 d2)⟩⟩
    · cases hg
def rO : Rl (Option Int) (Option Int) := fun _ _ _ _ _ a b => a = b
theorem later_rO : Later rO := fun _ _ _ _ _ _ _ _ _ h => h
def DP (X : Cx) (W : WX) (e : Option Expr) (m : M (Option Int)) : Prop := PO X e (tG (Cx.g X) W m rO)
theorem dp_none : DP X W none (mBd none) := ⟨fun pins s σ H Q I ⟨B, r, O, h⟩ => po_none.run pins s σ H Q I (h.ret rfl)⟩
theorem dp_some {e : Expr} {m : M AV} (h : DO X W e m) : DP X W (some e) (mBd (some m)) := ⟨fun pins s σ H Q I ⟨B, r, O, g⟩ => (po_some h).run pins s σ H Q I (by
  refine tG.of ((At.bind g later_rO (R := rA (Cx.g X))).mono ?_)
  rintro v H1 ⟨a, B1, r1, O1, s1, x1, c, o, r', e, p⟩
  simp only at e
  split at e
  · rename_i n q
    cases e
    obtain ⟨rs, q1, q2⟩ := Option.bind_eq_some_iff.mp q
    exact ⟨n, rs_int (c.look2_ q1 x1) q2, p B1 H1 O1 _ .refl c .refl rfl⟩
  · cases e)⟩
theorem sIxD_eq (n d : Nat) (o : Option Int) : sIxD n d o = HT.sIx n d o := by cases o <;> rfl
theorem cutD_cut {xs : List V} {lo hi : Option Int} : cutD xs lo hi = cutV xs lo hi := by
  unfold cutD cutV
  rw [sIxD_eq, sIxD_eq]
theorem DqAll.cut {K : PySem.W.Frag} {H : Hp} {vs : List V} {ds : List D} (h : DqAll K H vs ds) (lo hi : Option Int) : DqAll K H (cutV vs lo hi) (cutD ds lo hi) := by
  rw [← cutD_cut]
  unfold cutD
  rw [h.length]
  exact (h.drop _).take _
theorem scrL_eq : ∀ (ns : List Int), scrL (ns.map fun n => (PyData.int n, PyData.none)) = some ns
  | [] => rfl
  | n :: ns => by
    show (scrL (ns.map fun n => (PyData.int n, PyData.none))).map (n :: ·) = _
    rw [scrL_eq ns]
    rfl
theorem scrOf_eq (ns : List Int) : scrOf ((PyData.none, PyData.none) :: ns.map fun n => (PyData.int n, PyData.none)) = some ns := scrL_eq ns
theorem dq_ints {K : PySem.W.Frag} {H : Hp} : ∀ ns : List Int, DqAll K H (ns.map V.int) (ns.map PyData.int)
  | [] => .nil
  | n :: ns => .cons (.int n) (dq_ints ns)
theorem cut_map {α β : Type} (f : α → β) (xs : List α) (lo hi : Option Int) : cutD (xs.map f) lo hi = (cutD xs lo hi).map f := by
  unfold cutD
  rw [List.length_map, List.map_take, List.map_drop]
/-- a[lo:hi] of lists, tuples, the script -/
theorem sl_any {a : Rs} {B H : Hp} {lo hi : Option Int} {v : V} {z : RV} {Q : VK} (sb : Same B H) (h : RsR X.K B H a v) (e : gCut lo hi a = some z) (q : ∀ H' v, Alc X.K B H H' z v → Q v H') : rSlL X.K v lo hi H Q ∨ rSlF X.K v lo hi H Q := by
  unfold gCut at e
  split at e
  · rename_i xs q1
    cases e
    obtain ⟨l, vs, rfl, h1, d1⟩ := rs_list sb h q1
    exact .inl ⟨l, vs, rfl, .of h1, alc_lst q (d1.cut lo hi)⟩
  · rename_i xs q1
    cases e
    obtain ⟨l, vs, rfl, h1, d1⟩ := rs_tuple sb h q1
    refine .inr ⟨l, vs, rfl, h1.sq, fun hw => ?_, fun _ => alc_tup q (d1.cut lo hi)⟩
    have : cutD xs lo hi = xs := by
      unfold cutD
      rw [sIxD_eq, sIxD_eq, ← d1.length, hw.1, hw.2, List.drop_zero, d1.length, Nat.sub_zero]
      exact List.take_length
    rw [this] at q
    cases a with
    | fz d => cases q1; exact alc_val q h
    | ow c => cases c <;> cases q1
  · rename_i kvs q1
    cases q2 : scrOf kvs with
    | none => rw [q2] at e; cases e
    | some ns =>
      rw [q2] at e
      cases e
      cases a with
      | ow c => cases c <;> cases q1
      | fz d =>
        cases q1
        cases h with
        | dic s => cases q2
        | dii s h2 e2 e3 e4 =>
          cases e4
          unfold scrOf at q2
          split at q2
          · cases e3
          · cases q2
        | fn s hd => unfold fnD at hd; cases hd; cases q2
        | @scr l ms d hs hd =>
          have hk : kvs = (PyData.none, PyData.none) :: ms.map fun n => (PyData.int n, PyData.none) := by
            unfold scrD at hd
            cases hd; rfl
          subst hk
          rw [scrOf_eq] at q2
          cases q2
          refine .inl ⟨l, _, rfl, sb.seq hs, alc_lst q ?_⟩
          rw [← cutD_cut, cut_map]
          exact dq_ints _
  · cases e
theorem de_slice {a : Expr} {lo hi : Option Expr} {p2 pos : Pos} {ma : M AV} {ml mh : Option (M AV)} (ha : DO X W a ma) (hl : DP X W lo (mBd ml)) (hh : DP X W hi (mBd mh)) : DE X W (.Subscript a (.Slice lo hi none p2) pos) (mSl ma ml mh) :=
  pe_weak (pe_slice (SlR.or sl_list fsl_tup) ha hl hh) fun σ H Q ⟨B, r, O, h⟩ => by
    refine tG.of ((h.bind later_rV (R := rA (Cx.g X))).mono ?_)
    rintro v H1 ⟨a, B1, r1, O1, s1, x1, h1⟩
    refine tG.of ((h1.bind later_rV (R := rO)).mono ?_)
    rintro l H2 ⟨l', B2, r2, O2, s2, rfl, h2⟩
    refine tG.of ((h2.bind later_rV (R := rO)).mono ?_)
    rintro u H3 ⟨u', B3, r3, O3, s3, rfl, c, o, r', e, p⟩
    simp only at e
    cases q : (look2 r3 a).bind (gCut l' u') with
    | none => rw [q] at e; cases e
    | some z =>
      rw [q] at e
      cases e
      obtain ⟨rs, q1, q2⟩ := Option.bind_eq_some_iff.mp q
      have x3 := (AvR.same (s2.sB.trans s3.sB) x1)
      refine sl_any c.sub (c.look2_ q1 x3) q2 fun H' v al => ?_
      obtain ⟨B', s, c', rv⟩ := c.alc al
      exact p B' H' O3 v s c' .refl rv
end
end DL
end

section
namespace DL
open PySem PySem.Spec PyProof.Rows L2
section
variable {X : Cx} {W : WX}
theorem cd_len : CallD X (.builtin "len") gLen := by
  intro pins s σ H vs us Q I r ⟨B, as, z, sb, p, hg, q⟩
  unfold gLen at hg
  split at hg
  · rename_i rows
    cases hg
    cases p with
    | cons p1 p =>
      cases p
      obtain ⟨l, F, rfl, as, rfl, g1, _, g2⟩ := p1
      exact call_len_seq pins s σ H _ us Q I r ⟨l, _, rfl, .inl (.of g1), by rw [List.length_map, g2.length]; exact alc_val q (.int _)⟩
  · rename_i kvs
    cases hg
    cases p with
    | cons p1 p =>
      cases p
      obtain ⟨l, F, rfl, rfl, vs, g1, g2⟩ := p1
      exact call_lenD pins s σ H _ us Q I r ⟨l, vs, rfl, g1, by rw [show vs.length = kvs.length from g2.length]; exact alc_val q (.int _)⟩
  · rename_i a
    cases p with
    | cons p1 p =>
      cases p
      split at hg
      · rename_i xs e
        cases hg
        obtain ⟨l, ms, rfl, g1, g2⟩ := rs_list sb p1 e
        exact call_len_seq pins s σ H _ us Q I r ⟨l, ms, rfl, .inl (.of g1), by rw [g2.length]; exact alc_val q (.int _)⟩
      · rename_i xs e
        cases hg
        obtain ⟨l, ms, rfl, g1, g2⟩ := rs_tuple sb p1 e
        exact call_len_seq pins s σ H _ us Q I r ⟨l, ms, rfl, .inr g1.sq, by rw [g2.length]; exact alc_val q (.int _)⟩
      · rename_i x e
        split at hg
        · rename_i hl
          cases hg
          cases rs_str p1 e
          exact call_len_str pins s σ H _ us Q I r ⟨x, rfl, by rw [← line_eq]; exact hl, alc_val q (.int _)⟩
        · cases hg
      · cases hg
  · cases hg
theorem bools_dq {K : PySem.W.Frag} {H : Hp} : ∀ {ds : List D} {bs : List Bool} {vs : List V}, boolsD ds = some bs → DqAll K H vs ds → vs = bs.map V.bl
  | [], _, _, h, d => by cases h; cases d; rfl
  | .bool i :: ds, ns, _, h, d => by
    cases d with
    | cons h1 t =>
      simp only [boolsD] at h
      cases q : boolsD ds with
      | none => rw [q] at h; cases h
      | some ms =>
        rw [q] at h
        cases h
        rw [dp_bl h1, bools_dq q t]
        rfl
  | .none :: _, _, _, h, _ => by cases h
  | .int _ :: _, _, _, h, _ => by cases h
  | .str _ :: _, _, _, h, _ => by cases h
  | .list _ :: _, _, _, h, _ => by cases h
  | .tuple _ :: _, _, _, h, _ => by cases h
  | .dict _ :: _, _, _, h, _ => by cases h
theorem cd_all (hc : X.calm = true) : CallD X (.builtin "all") gAll := by
  intro pins s σ H vs us Q I r ⟨B, as, z, sb, p, hg, q⟩
  unfold gAll at hg
  split at hg
  · split at hg
    · rename_i xs e
      cases q1 : boolsD xs with
      | none => rw [q1] at hg; cases hg
      | some bs =>
        rw [q1] at hg
        cases hg
        cases p with
        | cons p1 p =>
          cases p
          obtain ⟨l, ms, rfl, g1, g2⟩ := rs_list sb p1 e
          have := bools_dq q1 g2
          subst this
          exact cr_all hc pins s σ H _ us Q I r ⟨l, bs, rfl, .of g1, alc_val q (.bl _)⟩
    · cases hg
  · cases hg
def tyN : Ty → String
  | .int => "int"
  | .bool => "bool"
  | .str => "str"
  | .list => "list"
  | .tuple => "tuple"
  | .dict => "dict"
theorem isTy_pl {t : Ty} {d : D} {b : Bool} (h : isTy t d = some b) : (isTy .int d).isSome = true := by
  cases d with
  | dict kvs =>
    cases kvs with
    | nil => rfl
    | cons p r =>
      by_cases q : oneI (p :: r) = true
      · simp [isTy, q]
      · cases t <;> simp [isTy, q] at h
  | _ => rfl
theorem isTy_dict {kvs : List (D × D)} (h : (isTy .int (.dict kvs)).isSome = true) : kvs = [] ∨ ∃ p r, kvs = p :: r ∧ oneI (p :: r) = true := by
  cases kvs with
  | nil => exact .inl rfl
  | cons p r =>
    by_cases q : oneI (p :: r) = true
    · exact .inr ⟨p, r, rfl, q⟩
    · simp [isTy, q] at h
theorem isTy_kit {K : PySem.W.Frag} {B H : Hp} {d : D} {a : Rs} {v : V} (sb : Same B H) (h : RsR K B H a v) (e : a.data = some d) (hd : (isTy .int d).isSome = true) : ∃ T : String, TyX K H v (.type T) ∧ ∀ (t : Ty) b, isTy t d = some b → PySem.W.kitOne K (.type T) (.type (tyN t)) = some b := by
  cases d with
  | none =>
    have : v = .non := by
      cases a with
      | fz d => cases e; exact dp_non h
      | ow c => cases c <;> cases e
    subst this
    refine ⟨"NoneType", .base .non, fun t b ht => ?_⟩
    cases t <;> cases ht <;> exact kit_ty (by decide +kernel)
  | bool x =>
    have : v = .bl x := by
      cases a with
      | fz d => cases e; exact dp_bl h
      | ow c => cases c <;> cases e
    subst this
    refine ⟨"bool", .base (.bl x), fun t b ht => ?_⟩
    cases t <;> cases ht <;> exact kit_ty (by decide +kernel)
  | int x =>
    cases rs_int h e
    refine ⟨"int", .base (.int x), fun t b ht => ?_⟩
    cases t <;> cases ht <;> exact kit_ty (by decide +kernel)
  | str x =>
    cases rs_str h e
    refine ⟨"str", .base (.str x), fun t b ht => ?_⟩
    cases t <;> cases ht <;> exact kit_ty (by decide +kernel)
  | list x =>
    obtain ⟨l, ms, rfl, g1, g2⟩ := rs_list sb h e
    refine ⟨"list", .base (.lst g1), fun t b ht => ?_⟩
    cases t <;> cases ht <;> exact kit_ty (by decide +kernel)
  | tuple x =>
    obtain ⟨l, ms, rfl, ⟨o, _, g1⟩, g2⟩ := rs_tuple sb h e
    refine ⟨"tuple", .fTuple g1, fun t b ht => ?_⟩
    cases t <;> cases ht <;> exact kit_ty (by decide +kernel)
  | dict x =>
    rcases isTy_dict hd with rfl | ⟨p0, r0, rfl, hone⟩
    · have : ∃ l kvs, v = .ref l ∧ H l = some (.dK kvs) := by
        cases a with
        | fz d =>
          cases e
          have h : Dq K B v (.dict []) := h
          generalize hd : (PyData.dict [] : D) = d at h
          cases h with
          | scr s h => rw [h] at hd; cases hd
          | fn s h => rw [h] at hd; cases hd
          | dic s => exact ⟨_, _, rfl, sb _ _ s⟩
          | dii s => exact ⟨_, _, rfl, sb _ _ s⟩
          | _ => cases hd
        | ow c => cases c <;> cases e
      obtain ⟨l, kvs, rfl, g1⟩ := this
      refine ⟨"dict", .base (.dK g1), fun t b ht => ?_⟩
      cases t <;> cases ht <;> exact kit_ty (by decide +kernel)
    · have : ∃ l kvs, v = .ref l ∧ H l = some (.dK kvs) := by
        cases a with
        | fz d =>
          cases e
          have h : Dq K B v (.dict (p0 :: r0)) := h
          generalize hd : (PyData.dict (p0 :: r0) : D) = d at h
          cases h with
          | scr s h => rw [h] at hd; unfold scrD at hd; cases hd; cases hone
          | fn s h => rw [h] at hd; unfold fnD at hd; cases hd; cases hone
          | dic s => exact ⟨_, _, rfl, sb _ _ s⟩
          | dii s => exact ⟨_, _, rfl, sb _ _ s⟩
          | _ => cases hd
        | ow c => cases c <;> cases e
      obtain ⟨l, kvs, rfl, g1⟩ := this
      refine ⟨"dict", .base (.dK g1), fun t b ht => ?_⟩
      cases t <;> (simp only [isTy, hone, if_true] at ht; cases ht; exact kit_ty (by decide +kernel))
/-- isinstance(e, T) -/
theorem de_isi {t : Ty} {e : Expr} {T : Str} {p p2 pos : Pos} {m : M AV} (hg : Gl X "isinstance") (hm : X.mg "isinstance" = none) (hT : Gl X T) (mT : X.mg T = none) (he : DO X W e m) (hvT : bootBuiltins T = some (.type (tyN t))) (nT : T ≠ "__name__" := by decide) (dT : (T == ("__debug__" : Str)) = false := by decide)
    (h1 : starEach [e, .Name T p2] X.env = (false, eval e X.env) :: starEach [.Name T p2] X.env := by rfl) (h2 : starEach [.Name T p2] X.env = (false, eval (.Name T p2) X.env) :: starEach [] X.env := by rfl)
    (hpl : (backTo pos (starEach [.Name T p2] X.env)).any (·.1) = false := by rfl) (hv : bootBuiltins "isinstance" = some (.builtin "isinstance") := by decide +kernel) :
    DE X W (.Call (.Name "isinstance" p) [e, .Name T p2] [] pos) (mIsi [t] m) :=
  pe_weak (pe_callB call_isi hg hm hv (pa_cons he (pa_cons (pe_bltn hT mT hvT (v := .ty (tyN t)) rfl nT dT) pa_nil h2) h1) (by decide) (by decide) h1 hpl) fun σ H Q ⟨B, r, O, h⟩ => by
    refine tG.of ((h.bind later_rV (R := rA (Cx.g X))).mono ?_)
    rintro x H1 ⟨a, B1, r1, O1, s1, x1, c, o, r', e, p⟩
    simp only at e
    cases q : (look2 r1 a).bind Rs.data with
    | none => rw [q] at e; cases e
    | some d =>
      rw [q] at e
      simp only [Option.bind_some, anyTy] at e
      obtain ⟨rs, q3, q4⟩ := Option.bind_eq_some_iff.mp q
      cases q5 : isTy t d with
      | none => rw [q5] at e; cases e
      | some b =>
        rw [q5] at e
        obtain ⟨TT, k1, k2⟩ := isTy_kit c.sub (c.look2_ q3 x1) q4 (isTy_pl q5)
        have k2 := k2 t b q5
        refine ⟨x, .ty (tyN t), _, _, b, rfl, .ty _, k1, k2, ?_⟩
        cases b with
        | true => cases e; exact p B1 H1 O1 _ .refl c .refl (.bl _)
        | false => cases e; exact p B1 H1 O1 _ .refl c .refl (.bl _)
end
end DL
end

section
namespace DL
open PySem
def putD {κ : Type} [DecidableEq κ] (kvs : List (κ × D)) (k : κ) (v : D) : List (κ × D) :=
  if kvs.any (fun kv => decide (kv.1 = k)) = true then kvs.map fun kv => if kv.1 = k then (kv.1, v) else kv else kvs ++ [(k, v)]
def valD {κ : Type} [DecidableEq κ] (kvs : List (κ × D)) (k : κ) : Option D := (kvs.find? fun kv => decide (kv.1 = k)).map (·.2)
def mNewK : M RV := M.ret (.new (.dK []))
def keyAt (r : Ro) (a : AV) : Option Ky := ((look2 r a).bind Rs.data).bind kyOf
end DL
end

section
namespace DL
open PySem PySem.Spec PyProof.Rows L2
section
variable {K : PySem.W.Frag} {B H : Hp}
theorem kv_val {vs : List (Ky × V)} {kvs : List (Ky × D)} (h : KvR K B vs kvs) (k : Ky) : match valD kvs k with
    | some d => ∃ v, valV vs k = some v ∧ Dq K B v d
    | none => valV vs k = none := by
  induction h with
  | nil => rfl
  | @cons p q ps qs hp t ih =>
    obtain ⟨h1, h2⟩ := hp
    by_cases e : q.1 = k
    · have e' : p.1 = k := h1.trans e
      rw [show valD (q :: qs) k = some q.2 by unfold valD; simp [List.find?_cons, e]]
      exact ⟨p.2, valV_pos e', h2⟩
    · have e' : ¬ p.1 = k := fun z => e (h1.symm.trans z)
      rw [show valD (q :: qs) k = valD qs k by unfold valD; simp [List.find?_cons, e], valV_neg e']
      exact ih
theorem kv_any {vs : List (Ky × V)} {kvs : List (Ky × D)} (h : KvR K B vs kvs) (k : Ky) : (vs.any fun kv => decide (kv.1 = k)) = kvs.any fun kv => decide (kv.1 = k) := by
  induction h with
  | nil => rfl
  | @cons p q ps qs hp t ih => rw [List.any_cons, List.any_cons, ih, hp.1]
theorem kv_map {vs : List (Ky × V)} {kvs : List (Ky × D)} (h : KvR K B vs kvs) (k : Ky) {v : V} {d : D} (hd : Dq K B v d) : KvR K B (vs.map fun kv => if kv.1 = k then (kv.1, v) else kv) (kvs.map fun kv => if kv.1 = k then (kv.1, d) else kv) := by
  induction h with
  | nil => exact .nil
  | @cons p q ps qs hp t ih =>
    rw [List.map_cons, List.map_cons]
    refine .cons ?_ ih
    by_cases e : q.1 = k
    · rw [if_pos e, if_pos (hp.1.trans e)]; exact ⟨hp.1, hd⟩
    · rw [if_neg e, if_neg (fun z => e (hp.1.symm.trans z))]; exact hp
theorem kv_snoc {vs : List (Ky × V)} {kvs : List (Ky × D)} (h : KvR K B vs kvs) (k : Ky) {v : V} {d : D} (hd : Dq K B v d) : KvR K B (vs ++ [(k, v)]) (kvs ++ [(k, d)]) := by
  induction h with
  | nil => exact .cons ⟨rfl, hd⟩ .nil
  | cons hp t ih => exact .cons hp ih
theorem kv_put {vs : List (Ky × V)} {kvs : List (Ky × D)} (h : KvR K B vs kvs) (k : Ky) {v : V} {d : D} (hd : Dq K B v d) : KvR K B (putK vs k v) (putD kvs k d) := by
  unfold putK putD
  rw [kv_any h k]
  split
  · exact kv_map h k hd
  · exact kv_snoc h k hd
theorem key_kV {a : Rs} {v : V} {k : Ky} (h : RsR K B H a v) (e : a.data.bind kyOf = some k) : v = kV k := by
  obtain ⟨d, e1, e2⟩ := Option.bind_eq_some_iff.mp e
  cases d with
  | int i => cases e2; exact rs_int h e1
  | str x => cases e2; exact rs_str h e1
  | _ => cases e2
end
section
variable {X : Cx} {W : WX}
theorem keyAt_of {K : PySem.W.Frag} {B H : Hp} {σ : L2.St} {r : Ro} {O : Addr → Prop} (c : Con K B H σ r O) {a : AV} {k : Ky} {v : V} (h : keyAt r a = some k) (x : AvR K B σ a v) : v = kV k := by
  unfold keyAt at h
  obtain ⟨d, e1, e2⟩ := Option.bind_eq_some_iff.mp h
  obtain ⟨rs, e3, e4⟩ := Option.bind_eq_some_iff.mp e1
  exact key_kV (c.look2_ e3 x) (by rw [e4]; exact e2)
theorem de_newK {pos : Pos} : DE X W (.Dict [] [] pos) mNewK := pe_weak pe_dnewK fun σ H Q ⟨B, r, O, c, o, r', e, p⟩ => by
  cases e
  intro q hq
  obtain ⟨B', s, c', rv⟩ := c.alc (show Alc X.K B H (upd H q (.dK [])) (.new (.dK [])) (.ref q) from ⟨q, [], hq, rfl, .nil, rfl⟩)
  exact p B' _ O _ s c' .refl rv
end
end DL
end

section
namespace DL
open PySem
/-- -x -/
def gNeg : List Rs → Option RV
  | [.fz (.int i)] => some (.val (.int (-i)))
  | _ => none
end DL
end

section
namespace DL
open PySem PySem.Spec PyProof.Rows L2
section
variable {prog : Program} {w : World} {A : Around} {E : Value → Shared → Prop} {s : Shared}
end
section
variable {X : Cx} {W : WX}
theorem od_neg : UnD X (unaryOp .USub) gNeg := by
  intro pins s σ H x v Q I rx ⟨B, a, z, sb, r1, hg, q⟩
  unfold gNeg at hg
  split at hg
  · rename_i i e
    cases e
    cases hg
    exact un_neg pins s σ H x v Q I rx ⟨i, dp_int r1, alc_val q (.int _)⟩
  · cases hg
end
end DL
end

section
namespace DL
open PySem
/-- data of small depth that can be laid -/
def okE (d : D) : Bool := d.canLay0 && decide (d.depth ≤ 40)
/-- x in a list or a tuple -/
def gInS (neg : Bool) : List Rs → Option RV
  | [a, b] => match a.data, b.data.bind rowOf with
    | some x, some ys => if okE x && ys.all okE then some (.val (.bool (neg ^^ ys.any fun y => PyData.eqv y x))) else none
    | _, _ => none
  | _ => none
def isTup1 : D → Bool
  | .tuple (_ :: _) => true
  | _ => false
def notTN : D → Bool
  | .tuple _ => false
  | .none => false
  | _ => true
/-- data that sorted can compare -/
def srtOk (ds : List D) : Bool := ds.all okE && (ds.all fun d => ds.all fun e => W.alike d e) && (ds.all isTup1 || ds.all notTN || ds.all isTupD)
def srtD (ds : List D) : List D := ds.mergeSort (W.dataLe false id)
def gSort : List Rs → Option RV
  | [a] => match a.data.bind rowOf with
    | some ds => if srtOk ds then some (.new (.lst (srtD ds))) else none
    | none => none
  | _ => none
def mmOk (ds : List D) : Bool := ds.all okE && (ds.all fun d => ds.all fun e => W.alike d e) && ds.all fun d => match d with | .none => false | _ => true
def gMinL : List Rs → Option RV
  | [a] => match a.data.bind rowOf with
    | some (x :: xs) => if mmOk (x :: xs) then some (.val (W.minD x xs)) else none
    | _ => none
  | _ => none
def gMaxL : List Rs → Option RV
  | [a] => match a.data.bind rowOf with
    | some (x :: xs) => if mmOk (x :: xs) then some (.val (W.maxD x xs)) else none
    | _ => none
  | _ => none
end DL
end

section
namespace DL
open PySem PySem.Spec PySem.Calls PyProof.Rows L2
open PySem.W (EachIs AllAlike Sortable alike dataLt dataLe SortsAt dataKind)
section
variable {prog : Program} {w : World} {A : Around} {E : Value → Shared → Prop} {s : Shared}
open PySem.SeqAt in
theorem call_tuple_lt {Q : Value → Shared → Prop} {l b : Addr} {items items2 : Array Value} {e r : Nat → Bool} (hl : s.heap.IsTuple l items) (hb : s.heap.IsTuple b items2)
    (he : ∀ j (h1 : j < items.size) (h2 : j < items2.size), EqAt A.in1 s items[j] items2[j] (e j)) (hr : ∀ j (h1 : j < items.size) (h2 : j < items2.size), e j = false → RcLt A.in1 s items[j] items2[j] (r j))
    (h : Q (.bool (firstLt e r (decide (items.size < items2.size)) (List.range (min items.size items2.size)))) s) : wpAny (model prog w) A (call (.builtin "tuple.__lt__") [.ref l, .ref b]) Q E s := by
  obtain ⟨⟨cls, dd, data, sl⟩, ho, hc, n, hd⟩ := id hl
  obtain ⟨⟨cls2, dd2, data2, sl2⟩, ho2, hc2, n2, hd2⟩ := id hb
  simp only at hc hd hc2 hd2
  subst hc hd hc2 hd2
  exact call_meets PySem.F.slot_tuple_lt ⟨_, ho, rfl⟩ PySem.F.entry_tuple_lt (PySem.F.args_tuple_lt_2 _ _) (PySem.SeqAt.tuple_ltAt l b items items2 n n2 dd dd2 sl sl2 e r) ⟨ho, ho2, he, hr, h⟩
/-- one tuple against another, as keys of one type -/
theorem oneLt_tup {xs ys : List D} {a b : Value} {as bs : List Addr} {Q : Bool → Shared → Prop} (ra : Reads s.heap a (.tuple xs) as) (rb : Reads s.heap b (.tuple ys) bs) (h : alike (.tuple xs) (.tuple ys) = true)
    (hu : A.units + min (PyData.depth (.tuple xs)) (PyData.depth (.tuple ys)) < cLine) (hq : Q (dataLt (.tuple xs) (.tuple ys)) s) : wpAny (model prog w) A (oneLt' true a b) Q E s := by
  have hal : PySem.W.alikeAll xs ys = true := by simpa [alike] using h
  cases ra with
  | @tuple l o vs n _ as₁ h1 h2 h3 h4 =>
    cases rb with
    | @tuple l' o' vs' n' _ bs₁ k1 k2 k3 k4 =>
      have n1 : vs.size = xs.length := by simpa using SeqAt.ReadsAll.length _ _ _ h4
      have n2 : vs'.size = ys.length := by simpa using SeqAt.ReadsAll.length _ _ _ k4
      rw [PySem.W.dataLt_tuple, ← PySem.W.firstLt_toks xs ys hal, ← n1, ← n2] at hq
      rw [oneLt'_eq]
      simp only [if_true]
      refine wpAny_bind (wpAny_cRoomFor (SeqAt.room_here hu) ?_)
      refine wpAny_bind (wpAny_callSpecialIfBound?_slot (T := "tuple") ⟨_, h1, h2⟩ PySem.F.slot_tuple_lt (call_tuple_lt (e := PySem.SeqAt.pairEq xs ys) (r := fun j => dataLt (xs.getD j .none) (ys.getD j .none)) ⟨_, h1, h2, _, h3⟩ ⟨_, k1, k2, _, k3⟩ (fun j j1 j2 => ?_) (fun j j1 j2 hj => ?_) ?_))
      · have := PySem.W.eqAt_alikeAll xs ys A.in1 s vs.toList vs'.toList _ _ h4 k4 hal (SeqAt.room_in hu) j (by simpa using j1) (by simpa using j2)
        simpa using this
      · have := PySem.W.rcLt_alikeAll xs ys A.in1 s vs.toList vs'.toList _ _ h4 k4 hal (SeqAt.room_in hu) j (by simpa using j1) (by simpa using j2) hj
        simpa using this
      · exact wpAny_truthy_bool hq
theorem mapM_each {α β : Type} {f : α → PySem.Sem β} {M : Model} : ∀ (l : List α) {Q : List β → Shared → Prop} (k : α → β), (∀ v ∈ l, ∀ (Q' : β → Shared → Prop), Q' (k v) s → wpAny M A (f v) Q' E s) → Q (l.map k) s → wpAny M A (l.mapM f) Q E s
  | [], _, _, _, h => by rw [List.mapM_nil]; exact wpAny_pure h
  | x :: l, Q, k, hf, h => by
    rw [List.mapM_cons]
    exact wpAny_bind (hf x (.head _) _ (wpAny_bind (mapM_each l (Q := fun bs s' => wpAny M A (pure (k x :: bs)) Q E s') k (fun v hv => hf v (.tail _ hv)) (wpAny_pure h))))
/-- the kind of tuples that begin with an empty one -/
theorem kind_empty {v : Value} {vs : List Value} {ds : List D} {Q : PyProof.Rows.SortKind → Shared → Prop} (e : EachIs (fun v d => ∃ as, Reads s.heap v d as) (v :: vs) (.tuple [] :: ds)) (ht : ∀ d ∈ ds, isTupD d = true)
    (h : Q oneType' s) : wpAny (model prog w) A (keyKind' (v :: vs).toArray) Q E s := by
  have each : ∀ u ∈ v :: vs, ∃ a o n, ∃ xs : Array Value, u = .ref a ∧ s.heap.get? a = some o ∧ o.cls = .type "tuple" ∧ o.data = .seq xs n := fun u hu => by
    obtain ⟨d, hd, as, r⟩ := e.left u hu
    have : isTupD d = true := by
      rcases List.mem_cons.mp hd with rfl | hd
      · rfl
      · exact ht d hd
    cases r with
    | @tuple a o xs n _ _ h1 h2 h3 h4 => exact ⟨a, o, n, xs, rfl, h1, h2, h3⟩
    | _ => cases this
  have hv : ∃ a o n, v = .ref a ∧ s.heap.get? a = some o ∧ o.cls = .type "tuple" ∧ o.data = .seq #[] n := by
    cases e with
    | cons h1 t =>
      obtain ⟨as, r⟩ := h1
      cases r with
      | @tuple a o xs n _ _ h1 h2 h3 h4 =>
        have : xs.toList = [] := by
          cases h5 : xs.toList with
          | nil => rfl
          | cons y ys => rw [h5] at h4; cases h4
        have : xs = #[] := by simpa using this
        subst this
        exact ⟨a, o, n, rfl, h1, h2, h3⟩
  let k : Value → Option Value := fun u => match u with
    | .ref a => (s.heap.get? a).bind fun o => match o.data with
      | .seq xs _ => xs[0]?
      | _ => none
    | _ => none
  have hk : ∀ u a o n (xs : Array Value), u = .ref a → s.heap.get? a = some o → o.data = .seq xs n → o.cls = .type "tuple" → k u = xs[0]? := by
    intro u a o n xs e1 e2 e3 e4
    subst e1
    show (s.heap.get? a).bind _ = _
    rw [e2]
    show (match o.data with | .seq xs _ => xs[0]? | _ => none) = _
    rw [e3]
  rw [keyKind'_eq, List.mapM_toArray, map_eq_pure_bind]
  refine wpAny_bind (wpAny_bind (mapM_each _ k (fun u hu Q' hq => ?_) (wpAny_pure ?_)))
  · obtain ⟨a, o, n, xs, rfl, h1, h2, h3⟩ := each u hu
    rw [hk _ a o n xs rfl h1 h3 h2] at hq
    rw [PySem.W.kas_first_eq]
    refine wpAny_bind (PySem.W.Looks.here (show PySem.W.Looks (model prog w) s.heap (typeOf (.ref a)) o.cls from (PySem.W.Looks.ld h1).andThen .now) ?_)
    rw [h2, if_neg (by first | decide | simp)]
    exact wpAny_bind (listItems_at h1 h3 (wpAny_pure hq))
  · obtain ⟨a, o, n, rfl, h1, h2, h3⟩ := hv
    have k0 : k (.ref a) = none := by rw [hk _ a o n #[] rfl h1 h3 h2]; rfl
    rw [List.map_cons, k0, if_neg (by simp), if_neg (by simp)]
    rw [oneTypeOnly'_eq, List.mapM_toArray, map_eq_pure_bind]
    refine wpAny_bind (wpAny_bind (wpAny_bind (PySem.W.kas_mapM (r := .type "tuple") _ (fun u hu Q' hq => ?_) (wpAny_pure ?_))))
    · obtain ⟨a, o, n, xs, rfl, h1, h2, h3⟩ := each u hu
      exact PySem.W.Looks.here (show PySem.W.Looks (model prog w) s.heap (typeOf (.ref a)) (.type "tuple") from h2 ▸ (PySem.W.Looks.ld h1).andThen .now) hq
    · have hall : ((List.map (fun _ => Value.type "tuple") (Value.ref a :: vs)).toArray.all fun x => x == Value.type "tuple") = true := by
        simp only [List.all_toArray, List.all_map, List.all_eq_true]
        intro _ _
        exact beq_self_eq_true (Value.type "tuple")
      have h0 : (List.map (fun _ => Value.type "tuple") (Value.ref a :: vs)).toArray[0]? = some (Value.type "tuple") := by simp
      rw [h0]
      simp only [hall, if_true]
      exact wpAny_pure (wpAny_pure h)
/-- tuples that begin with an empty one can be sorted -/
theorem sortsAt_empty {vs : List Value} {ds : List D} (e : EachIs (fun v d => ∃ as, Reads s.heap v d as) vs (.tuple [] :: ds)) (hal : AllAlike (.tuple [] :: ds)) (ht : ∀ d ∈ ds, isTupD d = true) (hu : ∀ d ∈ (.tuple [] :: ds : List D), A.units + d.depth < cLine) :
    SortsAt prog w A s (dataKind s.heap (.tuple [] :: ds)) vs := by
  have room : ∀ {d d' : PyData}, d ∈ (.tuple [] :: ds : List D) → A.units + min d.depth d'.depth < cLine := fun {d d'} hd => Nat.lt_of_le_of_lt (Nat.add_le_add_left (Nat.min_le_left _ _) _) (hu d hd)
  have tup : ∀ d ∈ (.tuple [] :: ds : List D), ∃ xs, d = .tuple xs := fun d hd => by
    rcases List.mem_cons.mp hd with rfl | hd
    · exact ⟨_, rfl⟩
    · have := ht d hd
      cases d with
      | tuple xs => exact ⟨xs, rfl⟩
      | _ => cases this
  refine ⟨fun v hv => ?_, oneType', ?_, fun h2 E Q hq => ?_⟩
  · obtain ⟨d, hd, as, r⟩ := e.left v hv
    exact ⟨_, PySem.W.dataKind_some hal hd r⟩
  · intro E x y a b Q ha hb hq
    obtain ⟨d, as, hd, ra, rfl⟩ := PySem.W.dataKind_inv ha
    obtain ⟨d', as', hd', rb, rfl⟩ := PySem.W.dataKind_inv hb
    rw [keyLt'_oneType]
    obtain ⟨xs, rfl⟩ := tup d hd
    obtain ⟨ys, rfl⟩ := tup d' hd'
    exact oneLt_tup ra rb (hal _ hd _ hd') (room hd) hq
  · cases e with
    | cons h1 t => exact kind_empty (.cons h1 t) ht hq
theorem keyLt'_general (x y : Value) : keyLt' general' x y = oneLt' false x y := rfl
theorem oneLt_gen {a b : Value} {d d' : D} {as bs : List Addr} {Q : Bool → Shared → Prop} (ra : Reads s.heap a d as) (rb : Reads s.heap b d' bs) (h : alike d d' = true) (hn : d ≠ .none)
    (hu : A.units + min d.depth d'.depth < cLine) (hq : Q (dataLt d d') s) : wpAny (model prog w) A (oneLt' false a b) Q E s := by
  rw [oneLt'_eq]
  simp only [Bool.false_eq_true, if_false]
  exact wpAny_bind (PySem.W.rcLt_alike d d' A s a b as bs ra rb h hn hu prog w E _ (wpAny_truthy_bool hq))
/-- the kind of tuples of which the first is not empty, another one is -/
theorem kind_mixed {v : Value} {vs : List Value} {x : D} {xs0 : List D} {ds : List D} {Q : PyProof.Rows.SortKind → Shared → Prop} (e : EachIs (fun v d => ∃ as, Reads s.heap v d as) (v :: vs) (.tuple (x :: xs0) :: ds)) (ht : ∀ d ∈ ds, isTupD d = true) (hx : .tuple [] ∈ ds)
    (h : Q general' s) : wpAny (model prog w) A (keyKind' (v :: vs).toArray) Q E s := by
  have each : ∀ u ∈ v :: vs, ∃ a o n, ∃ xs : Array Value, u = .ref a ∧ s.heap.get? a = some o ∧ o.cls = .type "tuple" ∧ o.data = .seq xs n := fun u hu => by
    obtain ⟨d, hd, as, r⟩ := e.left u hu
    have : isTupD d = true := by
      rcases List.mem_cons.mp hd with rfl | hd
      · rfl
      · exact ht d hd
    cases r with
    | @tuple a o xs n _ _ h1 h2 h3 h4 => exact ⟨a, o, n, xs, rfl, h1, h2, h3⟩
    | _ => cases this
  have hv : ∃ a o n, ∃ xs : Array Value, v = .ref a ∧ s.heap.get? a = some o ∧ o.cls = .type "tuple" ∧ o.data = .seq xs n ∧ xs[0]?.isSome = true := by
    cases e with
    | cons h1 t =>
      obtain ⟨as, r⟩ := h1
      cases r with
      | @tuple a o xs n _ _ h1 h2 h3 h4 =>
        refine ⟨a, o, n, xs, rfl, h1, h2, h3, ?_⟩
        have hl := SeqAt.ReadsAll.length _ _ _ h4
        have : 0 < xs.size := by simp at hl; omega
        simp [this]
  have hz : ∃ u ∈ v :: vs, ∃ a o n, u = .ref a ∧ s.heap.get? a = some o ∧ o.cls = .type "tuple" ∧ o.data = .seq #[] n := by
    have e2 : ∃ u ∈ vs, ∃ as, Reads s.heap u (.tuple []) as := by
      cases e with
      | cons h1 t =>
        clear h1
        clear each hv ht
        induction t with
        | nil => cases hx
        | @cons u d us ds h2 t ih =>
          rcases List.mem_cons.mp hx with rfl | hx
          · exact ⟨u, by simp, h2⟩
          · obtain ⟨z, hz, hz2⟩ := ih hx
            exact ⟨z, by simp [hz], hz2⟩
    obtain ⟨u, hu, as, r⟩ := e2
    cases r with
    | @tuple a o xs n _ _ h1 h2 h3 h4 =>
      have : xs.toList = [] := by
        cases h5 : xs.toList with
        | nil => rfl
        | cons y ys => rw [h5] at h4; cases h4
      have : xs = #[] := by simpa using this
      subst this
      exact ⟨_, by simp [hu], a, o, n, rfl, h1, h2, h3⟩
  let k : Value → Option Value := fun u => match u with
    | .ref a => (s.heap.get? a).bind fun o => match o.data with
      | .seq xs _ => xs[0]?
      | _ => none
    | _ => none
  have hk : ∀ u a o n (xs : Array Value), u = .ref a → s.heap.get? a = some o → o.data = .seq xs n → o.cls = .type "tuple" → k u = xs[0]? := by
    intro u a o n xs e1 e2 e3 e4
    subst e1
    show (s.heap.get? a).bind _ = _
    rw [e2]
    show (match o.data with | .seq xs _ => xs[0]? | _ => none) = _
    rw [e3]
  rw [keyKind'_eq, List.mapM_toArray, map_eq_pure_bind]
  refine wpAny_bind (wpAny_bind (mapM_each _ k (fun u hu Q' hq => ?_) (wpAny_pure ?_)))
  · obtain ⟨a, o, n, xs, rfl, h1, h2, h3⟩ := each u hu
    rw [hk _ a o n xs rfl h1 h3 h2] at hq
    rw [PySem.W.kas_first_eq]
    refine wpAny_bind (PySem.W.Looks.here (show PySem.W.Looks (model prog w) s.heap (typeOf (.ref a)) o.cls from (PySem.W.Looks.ld h1).andThen .now) ?_)
    rw [h2, if_neg (by first | decide | simp)]
    exact wpAny_bind (listItems_at h1 h3 (wpAny_pure hq))
  · have hall : (List.map k (v :: vs)).toArray.all (fun o => o.isSome) = false := by
      obtain ⟨u, hu, a, o, n, e1, h1, h2, h3⟩ := hz
      have k0 : k u = none := by rw [hk u a o n #[] e1 h1 h3 h2]; rfl
      rw [List.all_toArray, Bool.eq_false_iff]
      intro hh
      have := List.all_eq_true.mp hh (k u) (List.mem_map.mpr ⟨u, hu, rfl⟩)
      rw [k0] at this
      cases this
    obtain ⟨a, o, n, xs, e1, h1, h2, h3, h4⟩ := hv
    have k1 : (k v).isSome = true := by rw [hk v a o n xs e1 h1 h3 h2]; exact h4
    rw [if_neg (by rw [hall]; simp), if_pos (by simpa using k1)]
    exact wpAny_pure h
/-- .. can be sorted, too -/
theorem sortsAt_mixed {vs : List Value} {x : D} {xs0 : List D} {ds : List D} (e : EachIs (fun v d => ∃ as, Reads s.heap v d as) vs (.tuple (x :: xs0) :: ds)) (hal : AllAlike (.tuple (x :: xs0) :: ds)) (ht : ∀ d ∈ ds, isTupD d = true) (hx : .tuple [] ∈ ds) (hu : ∀ d ∈ (.tuple (x :: xs0) :: ds : List D), A.units + d.depth < cLine) :
    SortsAt prog w A s (dataKind s.heap (.tuple (x :: xs0) :: ds)) vs := by
  have room : ∀ {d d' : PyData}, d ∈ (.tuple (x :: xs0) :: ds : List D) → A.units + min d.depth d'.depth < cLine := fun {d d'} hd => Nat.lt_of_le_of_lt (Nat.add_le_add_left (Nat.min_le_left _ _) _) (hu d hd)
  have tup : ∀ d ∈ (.tuple (x :: xs0) :: ds : List D), ∃ xs, d = .tuple xs := fun d hd => by
    rcases List.mem_cons.mp hd with rfl | hd
    · exact ⟨_, rfl⟩
    · have := ht d hd
      cases d with
      | tuple xs => exact ⟨xs, rfl⟩
      | _ => cases this
  refine ⟨fun v hv => ?_, general', ?_, fun h2 E Q hq => ?_⟩
  · obtain ⟨d, hd, as, r⟩ := e.left v hv
    exact ⟨_, PySem.W.dataKind_some hal hd r⟩
  · intro E x y a b Q ha hb hq
    obtain ⟨d, as, hd, ra, rfl⟩ := PySem.W.dataKind_inv ha
    obtain ⟨d', as', hd', rb, rfl⟩ := PySem.W.dataKind_inv hb
    rw [keyLt'_general]
    refine oneLt_gen ra rb (hal _ hd _ hd') (fun hn => ?_) (room hd) hq
    obtain ⟨xs, rfl⟩ := tup d hd
    cases hn
  · cases e with
    | cons h1 t => exact kind_mixed (.cons h1 t) ht hx hq
end
end DL
end

section
namespace DL
open PySem PySem.Spec PySem.Calls PyProof.Rows L2
open PySem.W (EachIs AllAlike Sortable alike dataLt dataLe SortsAt dataKind)
section
variable {prog : Program} {w : World} {A : Around} {E : Value → Shared → Prop} {s : Shared}
theorem collect_tuple {l : Addr} {vs : List Value} {Q : List Value → Shared → Prop} (hl : s.heap.IsTuple l vs.toArray)
    (h : Q vs { s with heap := (s.heap.push (seqObj "list" #[] 0)).update s.heap.objs.size (Obj.mapSeq (· ++ vs.toArray)) }) (hsz : vs.length ≤ sizeLine) :
    wpAny (model prog w) A (collect (.ref l)) Q E s := by
  obtain ⟨o, ho, hc, n, hd⟩ := id hl
  unfold collect
  refine wpAny_bind (wpAny_runValue (codeAny_builtin entry_proto_collect' ?_))
  show wpAny _ _ (do again (.builtin "list.__iadd__" ⟨[← newList [], .ref l], []⟩)) _ _ s
  refine wpAny_bind (wpAny_newList (wpAny_pure ⟨Code.quiet_builtin _ (by decide +kernel), codeAny_builtin entry_list_iadd' ?_⟩))
  show wpAny _ _ (Builtin.List.listExtendWith (.ref s.heap.objs.size) (.ref l) (.ref s.heap.objs.size)) _ _ { s with heap := s.heap.push (seqObj "list" #[] 0) }
  unfold Builtin.List.listExtendWith
  have ho' : (s.heap.push (seqObj "list" #[] 0)).get? l = some o := Heap.get?_push_of_some _ ho
  refine wpAny_bind (wpAny_typeOf (T := "tuple") ⟨o, ho', hc⟩ ?_)
  have ht : (Value.type "tuple" == Value.type "tuple") = true := by rfl
  rw [if_pos (by rw [ht]; simp)]
  refine wpAny_bind (listItems_at ho' hd ?_)
  refine wpAny_bind (listItems_at (xs := #[]) (n := 0) (Heap.get?_push_size _ rfl) rfl ?_)
  rw [if_neg (by simp)]
  refine wpAny_bind (listUpdate_at (xs := #[]) (n := 0) (Heap.get?_push_size _ rfl) rfl ?_ (Nat.zero_le _) (by show (#[] ++ vs.toArray).size ≤ sizeLine + 1; simp only [Array.size_append, List.size_toArray, List.length_nil]; omega))
  refine wpAny_pure ?_
  show wpAny (model prog w) A (do
      let o ← load s.heap.objs.size
      match o.data with
      | .seq xs _ => pure xs.toList
      | _ => unsupported "internal:collect") Q E { s with heap := (s.heap.push (seqObj "list" #[] 0)).update s.heap.objs.size (Obj.mapSeq (· ++ vs.toArray)) }
  refine wpAny_bind (wpAny_load (get?_update_seq (Heap.get?_push_size _ rfl) _) ?_)
  show wpAny _ _ (pure ((#[] : Array Value) ++ vs.toArray).toList) Q E _
  rw [show ((#[] : Array Value) ++ vs.toArray).toList = vs by simp]
  exact wpAny_pure h
/-- sorted of a list or of a tuple -/
theorem sorted_any {κ : PyProof.Rows.KeyKind} {l : Addr} {vs : List Value} {Q : Value → Shared → Prop} (hl : s.heap.IsList l vs.toArray ∨ s.heap.IsTuple l vs.toArray)
    (S : SortsAt prog w A.in1.in1 { s with heap := PySem.W.sortingHeap (PySem.W.copyHeap s.heap vs) (s.heap.objs.size + 1) vs } κ vs) (hL : vs.length ≤ sizeLine)
    (h : Q (.ref (s.heap.objs.size + 1)) { s with heap := sortedAll s.heap vs (PySem.W.sortVals κ false vs vs).toArray }) : wpAny (model prog w) A (call (.builtin "sorted") [.ref l]) Q E s := by
  rcases hl with hl | hl
  · exact PySem.W.sorted_vals hl S hL h
  · refine PyProof.Rows.call_function_entry_kw kind_sorted plain_sorted entry_sorted (args_sorted1 _) ?_
    unfold Builtin.«sorted»
    refine wpAny_bind (m := checkCount "sorted" 1 1 _) (wpAny_pure ?_)
    refine wpAny_bind (collect_tuple hl ?_ hL)
    refine wpAny_bind (wpAny_newList ?_ hL)
    have hsz : ((s.heap.push (seqObj "list" #[] 0)).update s.heap.objs.size (Obj.mapSeq (· ++ vs.toArray))).objs.size = s.heap.objs.size + 1 := by
      rw [Heap.size_update, size_push']
    show wpAny _ _ _ _ _ { s with heap := PySem.W.copyHeap s.heap vs }
    rw [hsz]
    refine wpAny_bind (wpAny_holding (wpAny_call_entry_kw slot_list_sort ⟨_, PySem.W.copyHeap_at s.heap vs, rfl⟩ entry_list_sort ?body (args_list_sort _)))
    case body =>
      show wpAny (model prog w) A.in1.in1 (Builtin.«list.sort» ⟨[.ref (s.heap.objs.size + 1)], []⟩) _ _ _
      refine PySem.W.list_sort_vals (s := { s with heap := PySem.W.copyHeap s.heap vs }) (PySem.W.copyHeap_at s.heap vs) S hL ⟨_, rfl, wpAny_pure ⟨_, rfl, h⟩⟩
end
theorem each_zip {α β γ : Type} {R : α → β → Prop} {S : β → γ → Prop} {T : α → β × γ → Prop} (hT : ∀ a b c, R a b → S b c → T a (b, c)) : ∀ {as : List α} {bs : List β} {cs : List γ}, EachIs R as bs → EachIs S bs cs → EachIs T as (bs.zip cs)
  | _, _, _, .nil, .nil => .nil
  | _, _, _, .cons a t, .cons b u => .cons (hT _ _ _ a b) (each_zip hT t u)
theorem each_dq {K : PySem.W.Frag} {H : Hp} : ∀ {vs : List V} {ds : List D}, DqAll K H vs ds → EachIs (Dq K H) vs ds
  | _, _, .nil => .nil
  | _, _, .cons a t => .cons a (each_dq t)
theorem dq_each {K : PySem.W.Frag} {H : Hp} : ∀ {vs : List V} {ds : List D}, EachIs (Dq K H) vs ds → DqAll K H vs ds
  | _, _, .nil => .nil
  | _, _, .cons a t => .cons a (dq_each t)
theorem each_vals : ∀ {xs : List V} {us : List Value}, Vals xs us → EachIs (fun u x => RelV x u) us xs
  | _, _, .nil => .nil
  | _, _, .cons a t => .cons a (each_vals t)
theorem vals_each : ∀ {us : List Value} {xs : List V}, EachIs (fun u x => RelV x u) us xs → Vals xs us
  | _, _, .nil => .nil
  | _, _, .cons a t => .cons a (vals_each t)
theorem each_fst {α β γ : Type} {R : α → β × γ → Prop} {S : α → β → Prop} (h : ∀ a p, R a p → S a p.1) : ∀ {as : List α} {ps : List (β × γ)}, EachIs R as ps → EachIs S as (ps.map (·.1))
  | _, _, .nil => .nil
  | _, _, .cons a t => .cons (h _ _ a) (each_fst h t)
theorem each_pair {α β γ : Type} {R : α → β × γ → Prop} {S : β → γ → Prop} (h : ∀ a p, R a p → S p.1 p.2) : ∀ {as : List α} {ps : List (β × γ)}, EachIs R as ps → EachIs S (ps.map (·.1)) (ps.map (·.2))
  | _, _, .nil => .nil
  | _, _, .cons a t => .cons (h _ _ a) (each_pair h t)
theorem okE_lay {d : D} (h : okE d = true) : d.canLay0 = true := (Bool.and_eq_true_iff.mp h).1
theorem okE_dep {d : D} (h : okE d = true) : d.depth ≤ 40 := of_decide_eq_true (Bool.and_eq_true_iff.mp h).2
section
variable {X : Cx} {W : WX}
theorem cd_sorted (hu : X.A.units + 64 < cLine) : CallD X (.builtin "sorted") gSort := by
  intro pins s σ H vs us Q I r ⟨B, as, z, sb, p, hg, q⟩
  unfold gSort at hg
  split at hg
  · rename_i a
    split at hg
    · rename_i ds e
      split at hg
      · rename_i hok
        cases hg
        obtain ⟨d, e1, e2⟩ := Option.bind_eq_some_iff.mp e
        cases p with
        | cons p1 p =>
          cases p
          -- where the items lie
          rename_i w
          have hrow : ∃ l ms its, w = V.ref l ∧ (s.heap.IsList l its.toArray ∨ s.heap.IsTuple l its.toArray) ∧ Vals ms its ∧ DqAll X.K B ms ds ∧ ms.length ≤ sizeLine := by
            rcases row_of e2 with rfl | rfl
            · obtain ⟨l, ms, ev, g1, g2⟩ := rs_list sb p1 e1
              obtain ⟨its, rv, hl, hz⟩ := I.list (SqL.of (K := X.K) g1)
              exact ⟨l, ms, its, ev, .inl hl.isList, rv, g2, hz⟩
            · obtain ⟨l, ms, ev, g1, g2⟩ := rs_tuple sb p1 e1
              obtain ⟨its, rv, hl, hz⟩ := I.tuple (g1.sq (K := X.K))
              refine ⟨l, ms, its, ev, .inr ?_, rv, g2, hz⟩
              obtain ⟨o, ho, hc, n, hd⟩ := hl
              exact ⟨o, ho, hc, n, hd⟩
          obtain ⟨l, ms, its, rfl, hl, rv, dq, hz⟩ := hrow
          cases Vals.ref1 r
          simp only [srtOk, Bool.and_eq_true] at hok
          obtain ⟨⟨o1, o2⟩, o3⟩ := hok
          have okds : ∀ d ∈ ds, okE d = true := fun d hd => List.all_eq_true.mp o1 d hd
          have hal : AllAlike ds := fun d hd e he => List.all_eq_true.mp (List.all_eq_true.mp o2 d hd) e he
          have lens : its.length = ds.length := by rw [← rv.length, dq.length]
          have ev := each_vals rv
          have ed := each_dq dq
          -- pairs of a value and its data
          let bs : List (V × D) := ms.zip ds
          let R : Value → V × D → Prop := fun u p => RelV p.1 u ∧ Dq X.K B p.1 p.2 ∧ okE p.2 = true
          have hsnd : bs.map Prod.snd = ds := by
            show (ms.zip ds).map Prod.snd = ds
            rw [List.map_snd_zip]
            rw [dq.length]
            exact Nat.le_refl _
          have eR : EachIs R its bs := by
            have ed2 : EachIs (fun v d => Dq X.K B v d ∧ okE d = true) ms ds := (PySem.W.each_mem ed).mono fun v d h => ⟨h.1, okds d h.2⟩
            exact each_zip (fun a b c h1 h2 => ⟨h1, h2.1, h2.2⟩) ev ed2
          have rd : ∀ u p, R u p → ∃ as, Reads s.heap u p.2 as := fun u p h => Dp.reads I p.2 p.1 u (dq_dp (dp_same sb h.2.1) (okE_lay h.2.2)) h.1
          have er : EachIs (fun v b => ∃ as, Reads s.heap v (Prod.snd b) as) its bs := eR.mono fun u p h => rd u p h
          have er' : EachIs (fun v b => ∃ as, Reads (PySem.W.sortingHeap (PySem.W.copyHeap s.heap its) (s.heap.objs.size + 1) its) v (Prod.snd b) as) its bs := er.mono fun _ _ ⟨as, r⟩ => ⟨as, PyProof.Rows.Reads.keeps (fun _ _ => PySem.W.sorting_copy_old) r⟩
          have er2 := PySem.W.each_map (R := fun v d => ∃ as, Reads (PySem.W.sortingHeap (PySem.W.copyHeap s.heap its) (s.heap.objs.size + 1) its) v d as) Prod.snd er'
          have hub : ∀ d ∈ ds, X.A.in1.in1.units + d.depth < cLine := fun d hd => by
            have := okE_dep (okds d hd)
            show X.A.units + 1 + 1 + d.depth < cLine
            omega
          have S : SortsAt X.prog X.w X.A.in1.in1 { s with heap := PySem.W.sortingHeap (PySem.W.copyHeap s.heap its) (s.heap.objs.size + 1) its } (dataKind (PySem.W.sortingHeap (PySem.W.copyHeap s.heap its) (s.heap.objs.size + 1) its) (bs.map Prod.snd)) its := by
            rw [hsnd] at er2 ⊢
            simp only [Bool.or_eq_true] at o3
            rcases o3 with (o3 | o3) | o3
            · refine SortsAt.data (s := { s with heap := PySem.W.sortingHeap (PySem.W.copyHeap s.heap its) (s.heap.objs.size + 1) its }) er2 hal (.inl fun d hd => ?_) hub
              have := List.all_eq_true.mp o3 d hd
              unfold isTup1 at this
              split at this
              · exact ⟨_, _, rfl⟩
              · cases this
            · refine SortsAt.data (s := { s with heap := PySem.W.sortingHeap (PySem.W.copyHeap s.heap its) (s.heap.objs.size + 1) its }) er2 hal (.inr fun d hd => ?_) hub
              have := List.all_eq_true.mp o3 d hd
              unfold notTN at this
              split at this
              · cases this
              · cases this
              · rename_i n1 n2
                exact ⟨n2, n1⟩
            · have o4 := List.all_eq_true.mp o3
              cases ds with
              | nil => exact SortsAt.data (s := { s with heap := PySem.W.sortingHeap (PySem.W.copyHeap s.heap its) (s.heap.objs.size + 1) its }) er2 hal (.inl fun d hd => by cases hd) hub
              | cons d0 ds' =>
                have h0 := o4 d0 (List.mem_cons_self ..)
                have ht : ∀ d ∈ ds', isTupD d = true := fun d hd => o4 d (List.mem_cons_of_mem _ hd)
                cases d0 with
                | tuple l0 =>
                  cases l0 with
                  | nil => exact sortsAt_empty (s := { s with heap := PySem.W.sortingHeap (PySem.W.copyHeap s.heap its) (s.heap.objs.size + 1) its }) er2 hal ht hub
                  | cons y ys =>
                    by_cases hx : (.tuple [] : D) ∈ ds'
                    · exact sortsAt_mixed (s := { s with heap := PySem.W.sortingHeap (PySem.W.copyHeap s.heap its) (s.heap.objs.size + 1) its }) er2 hal ht hx hub
                    · refine SortsAt.data (s := { s with heap := PySem.W.sortingHeap (PySem.W.copyHeap s.heap its) (s.heap.objs.size + 1) its }) er2 hal (.inl fun d hd => ?_) hub
                      rcases List.mem_cons.mp hd with rfl | hd
                      · exact ⟨_, _, rfl⟩
                      · have h1 := ht d hd
                        cases d with
                        | tuple l =>
                          cases l with
                          | nil => exact absurd hd hx
                          | cons z zs => exact ⟨_, _, rfl⟩
                        | _ => cases h1
                | _ => cases h0
          have hL : its.length ≤ sizeLine := by rw [← rv.length]; exact hz
          refine sorted_any hl S hL ?_
          have out : EachIs R (PySem.W.sortVals (dataKind (PySem.W.sortingHeap (PySem.W.copyHeap s.heap its) (s.heap.objs.size + 1) its) (bs.map Prod.snd)) false its its) (bs.mergeSort (dataLe false Prod.snd)) :=
            PySem.W.sortVals_data false eR er' (by rw [hsnd]; exact hal)
          generalize PySem.W.sortVals (dataKind (PySem.W.sortingHeap (PySem.W.copyHeap s.heap its) (s.heap.objs.size + 1) its) (bs.map Prod.snd)) false its its = outs at out
          have hm : (bs.mergeSort (dataLe false Prod.snd)).map Prod.snd = srtD ds := by
            unfold srtD
            rw [← hsnd]
            exact PySem.W.sort_maps Prod.snd fun a _ b _ => rfl
          have v1 : Vals ((bs.mergeSort (dataLe false Prod.snd)).map Prod.fst) outs := vals_each (each_fst (fun u p h => h.1) out)
          have d1 : DqAll X.K B ((bs.mergeSort (dataLe false Prod.snd)).map Prod.fst) (srtD ds) := by
            rw [← hm]
            exact dq_each (each_pair (R := R) (fun u p h => h.2.1) out)
          obtain ⟨ep, he'⟩ := PyProof.Rows.sortedAll_at s.heap its outs.toArray
          have hlen : ((bs.mergeSort (dataLe false Prod.snd)).map Prod.fst).length ≤ sizeLine := by
            rw [d1.length]
            unfold srtD
            rw [List.length_mergeSort, ← lens]
            exact hL
          exact ⟨.ref _, upd H (s.heap.objs.size + 1) (.lst _), I.laid (t' := s.toks) (fun _ _ => PyProof.Rows.sortedAll_old) (Nat.le_succ _) ⟨hlen, outs, ep, v1, by simpa using he'⟩, rfl, alc_lst q d1 _ (I.hok.fresh (Nat.le_succ _))⟩
      · cases hg
    · cases hg
  · cases hg
end
end DL
end

section
namespace DL
open PySem PySem.Spec PySem.Calls PyProof.Rows L2
open PySem.W (EachIs alike dataLt)
section
variable {X : Cx} {W : WX}
theorem lay_all {ds : List D} (h : ∀ d ∈ ds, okE d = true) : PyData.canLayAll0 ds = true ∧ PyData.depthAll ds ≤ 40 := by
  induction ds with
  | nil => exact ⟨by simp [PyData.canLayAll0], by simp [PyData.depthAll]⟩
  | cons d ds ih =>
    obtain ⟨h1, h2⟩ := ih fun e he => h e (by simp [he])
    have h3 := h d (by simp)
    have h4 := okE_dep h3
    exact ⟨by simp only [PyData.canLayAll0, okE_lay h3, h1, Bool.and_self], by simp only [PyData.depthAll]; omega⟩
theorem dqa_reads {pins : List (Addr × Obj)} {σ : L2.St} {H : Hp} {s : Shared} {ms : List V} {its : List Value} {ds : List D} (I : Inv X pins σ H s) (d : DqAll X.K H ms ds) (r : Vals ms its) (h : ∀ d ∈ ds, okE d = true) : ∃ as, ReadsAll s.heap its ds as :=
  Dp.readsAll I ds ms its (dqa_dpa d (lay_all h).1) r
/-- a row looked at -/
theorem row_at {pins : List (Addr × Obj)} {σ : L2.St} {B H : Hp} {s : Shared} (I : Inv X pins σ H s) (sb : Same B H) {a : Rs} {w : V} {ds : List D} (p1 : RsR X.K B H a w) (e : a.data.bind rowOf = some ds) :
    ∃ l ms its, w = V.ref l ∧ (s.heap.IsList l its.toArray ∨ s.heap.IsTuple l its.toArray) ∧ Vals ms its ∧ DqAll X.K B ms ds ∧ ms.length ≤ sizeLine := by
  obtain ⟨d, e1, e2⟩ := Option.bind_eq_some_iff.mp e
  rcases row_of e2 with rfl | rfl
  · obtain ⟨l, ms, ev, g1, g2⟩ := rs_list sb p1 e1
    obtain ⟨its, rv, hl, hz⟩ := I.list (SqL.of (K := X.K) g1)
    exact ⟨l, ms, its, ev, .inl hl.isList, rv, g2, hz⟩
  · obtain ⟨l, ms, ev, g1, g2⟩ := rs_tuple sb p1 e1
    obtain ⟨its, rv, hl, hz⟩ := I.tuple (g1.sq (K := X.K))
    refine ⟨l, ms, its, ev, .inr ?_, rv, g2, hz⟩
    obtain ⟨o, ho, hc, n, hd⟩ := hl
    exact ⟨o, ho, hc, n, hd⟩
theorem all_ok {ds : List D} (h : ds.all okE = true) : ∀ d ∈ ds, okE d = true := fun d hd => List.all_eq_true.mp h d hd
theorem row_dp {K : PySem.W.Frag} {B H : Hp} {a : Rs} {w : V} {ds : List D} (sb : Same B H) (p1 : RsR K B H a w) (e : a.data.bind rowOf = some ds) : ∃ d, (d = .list ds ∨ d = .tuple ds) ∧ Dq K H w d := by
  obtain ⟨d, e1, e2⟩ := Option.bind_eq_some_iff.mp e
  exact ⟨d, row_of e2, rs_dp sb p1 e1⟩
theorem od_in (hu : X.A.units + 64 < cLine) : OpD X (compareOp .In) (gInS false) := by
  intro pins s σ H x y v u Q I rx ry ⟨B, a, b, z, sb, r1, r2, hg, q⟩
  simp only [gInS] at hg
  split at hg
  · rename_i d ds h1 h2
    split at hg
    · rename_i hc
      cases hg
      obtain ⟨k1, k2⟩ := Bool.and_eq_true_iff.mp hc
      obtain ⟨l1, l2⟩ := lay_all (all_ok k2)
      obtain ⟨as, g1⟩ := Dp.reads I d x v (dq_dp (rs_dp sb r1 h1) (okE_lay k1)) rx
      obtain ⟨e, he, hd⟩ := row_dp sb r2 h2
      have e1 := okE_dep k1
      have hroom : X.A.units + 1 + min (PyData.depthAll ds) d.depth < cLine := by omega
      rcases he with rfl | rfl
      · obtain ⟨bs, g2⟩ := Dp.reads I (.list ds) y u (dq_dp hd (by simpa [PyData.canLay0] using l1)) ry
        exact SeqAt.in_list_reads g2 g1 l1 (okE_lay k1) hroom ⟨.bl _, H, I, rfl, alc_val q (by simpa using Dq.bl _)⟩
      · obtain ⟨bs, g2⟩ := Dp.reads I (.tuple ds) y u (dq_dp hd (by simpa [PyData.canLay0] using l1)) ry
        exact SeqAt.in_tuple_reads g2 g1 l1 (okE_lay k1) hroom ⟨.bl _, H, I, rfl, alc_val q (by simpa using Dq.bl _)⟩
    · cases hg
  · cases hg
theorem dqa_same {K : PySem.W.Frag} {B H : Hp} (sb : Same B H) {ms : List V} {ds : List D} (d : DqAll K B ms ds) : DqAll K H ms ds := dpa_same sb d
theorem mm_of {ds : List D} (h : mmOk ds = true) : (∀ d ∈ ds, okE d = true) ∧ PySem.W.AlikeAll ds := by
  simp only [mmOk, Bool.and_eq_true] at h
  obtain ⟨⟨o1, o2⟩, o3⟩ := h
  refine ⟨all_ok o1, fun d hd e he => List.all_eq_true.mp (List.all_eq_true.mp o2 d hd) e he, fun d hd => ?_⟩
  have := List.all_eq_true.mp o3 d hd
  rintro rfl
  cases this
/-- the item that was told -/
theorem mm_item {pins : List (Addr × Obj)} {σ : L2.St} {B H : Hp} {s : Shared} (I : Inv X pins σ H s) (sb : Same B H) {ms : List V} {its : List Value} {ds : List D} {d : D} (rv : Vals ms its) (dq : DqAll X.K B ms ds) (hok : ∀ d ∈ ds, okE d = true) (hal : ∀ e ∈ ds, alike e d = true)
    {i : Nat} {v : Value} {h' : Heap} {bs : List Addr} (hv : its.toArray[i]? = some v) (r : Reads h' v d bs) (hk : ∀ b o, s.heap.get? b = some o → h'.get? b = some o) : ∃ y, RelV y v ∧ Dq X.K B y d := by
  have hv : its[i]? = some v := by simpa using hv
  have hi : i < its.length := (List.getElem?_eq_some_iff.mp hv).1
  have hm : i < ms.length := by rw [rv.length]; exact hi
  obtain ⟨u, hu, ru⟩ := rv.get (i := i) (x := ms[i]) (List.getElem?_eq_getElem hm)
  rw [hv] at hu; cases hu
  have hd : i < ds.length := by rw [← dq.length]; exact hm
  obtain ⟨w, hw, dw⟩ := dq.get (i := i) (d := ds[i]) (List.getElem?_eq_getElem hd)
  rw [List.getElem?_eq_getElem hm] at hw; cases hw
  have hmem : ds[i] ∈ ds := List.getElem_mem hd
  obtain ⟨as, r2⟩ := Dp.reads I ds[i] ms[i] v (dq_dp (dp_same sb dw) (okE_lay (hok _ hmem))) ru
  have r3 := PySem.W.reads_keeps hk r2
  have := PySem.W.alike_unique _ _ _ _ _ (hal _ hmem) r3 r
  rw [← this]
  exact ⟨ms[i], ru, dw⟩
theorem minD_mem : ∀ (xs : List D) (x : D), PySem.W.minD x xs ∈ x :: xs := by
  intro xs
  unfold PySem.W.minD
  induction xs with
  | nil => intro x; simp
  | cons y ys ih =>
    intro x
    rw [List.foldl_cons]
    have := ih (if dataLt y x then y else x)
    split at this <;> rename_i hc <;> simp only [hc, if_true, if_false, List.mem_cons] at this ⊢ <;> grind
theorem maxD_mem : ∀ (xs : List D) (x : D), PySem.W.maxD x xs ∈ x :: xs := by
  intro xs
  unfold PySem.W.maxD
  induction xs with
  | nil => intro x; simp
  | cons y ys ih =>
    intro x
    rw [List.foldl_cons]
    have := ih (if dataLt x y then y else x)
    split at this <;> rename_i hc <;> simp only [hc, if_true, if_false, List.mem_cons] at this ⊢ <;> grind
theorem cd_minL (hc : X.calm = true) (hu : X.A.units + 64 < cLine) : CallD X (.builtin "min") gMinL := by
  intro pins s σ H vs us Q I r ⟨B, as, z, sb, p, hg, q⟩
  unfold gMinL at hg
  split at hg
  · split at hg
    · rename_i x xs e
      split at hg
      · rename_i hok
        cases hg
        cases p with
        | cons p1 p =>
          cases p
          obtain ⟨l, ms, its, rfl, hl, rv, dq, hz⟩ := row_at I sb p1 e
          cases Vals.ref1 r
          obtain ⟨ok, hal⟩ := mm_of hok
          obtain ⟨bs, hr⟩ := dqa_reads I (dqa_same sb dq) rv ok
          have hroom : X.A.units + 1 + PyData.depthAll (x :: xs) < cLine := by have := (lay_all ok).2; omega
          have fin : ∀ (i : Nat) v h' tk bs, its.toArray[i]? = some v → Reads h' v (PySem.W.minD x xs) bs → (∀ b o, s.heap.get? b = some o → h'.get? b = some o) → EP X pins σ Q v { s with heap := h', toks := tk } := fun i v h' tk bs hv r hk => by
            obtain ⟨y, ry, dy⟩ := mm_item I sb rv dq ok (fun e he => hal.1 e he _ (minD_mem _ _)) hv r hk
            exact ⟨y, H, I.kept hk, ry, alc_val q dy⟩
          rcases hl with hl | hl
          · exact PySem.W.min_list_data (I.ok.hd hc) hl (by simpa using hr) hal hroom fin
          · exact PySem.W.min_tuple_data (I.ok.hd hc) hl (by simpa using hr) hal hroom fin
      · cases hg
    · cases hg
  · cases hg
theorem cd_maxL (hc : X.calm = true) (hu : X.A.units + 64 < cLine) : CallD X (.builtin "max") gMaxL := by
  intro pins s σ H vs us Q I r ⟨B, as, z, sb, p, hg, q⟩
  unfold gMaxL at hg
  split at hg
  · split at hg
    · rename_i x xs e
      split at hg
      · rename_i hok
        cases hg
        cases p with
        | cons p1 p =>
          cases p
          obtain ⟨l, ms, its, rfl, hl, rv, dq, hz⟩ := row_at I sb p1 e
          cases Vals.ref1 r
          obtain ⟨ok, hal⟩ := mm_of hok
          obtain ⟨bs, hr⟩ := dqa_reads I (dqa_same sb dq) rv ok
          have hroom : X.A.units + 1 + PyData.depthAll (x :: xs) < cLine := by have := (lay_all ok).2; omega
          have fin : ∀ (i : Nat) v h' tk bs, its.toArray[i]? = some v → Reads h' v (PySem.W.maxD x xs) bs → (∀ b o, s.heap.get? b = some o → h'.get? b = some o) → EP X pins σ Q v { s with heap := h', toks := tk } := fun i v h' tk bs hv r hk => by
            obtain ⟨y, ry, dy⟩ := mm_item I sb rv dq ok (fun e he => hal.1 e he _ (maxD_mem _ _)) hv r hk
            exact ⟨y, H, I.kept hk, ry, alc_val q dy⟩
          rcases hl with hl | hl
          · exact PySem.W.max_list_data (I.ok.hd hc) hl (by simpa using hr) hal hroom fin
          · exact PySem.W.max_tuple_data (I.ok.hd hc) hl (by simpa using hr) hal hroom fin
      · cases hg
    · cases hg
  · cases hg
end
end DL
end

section
namespace DL
open PySem
end DL
end

section
namespace DL
open PySem
/-- an operand as data that stands still for a while -/
def Ct.view : Ct → Option D
  | .lst ds => some (.list ds)
  | .ll rows => some (.list (rows.map .list))
  | _ => none
def Rs.view : Rs → Option Rs
  | .fz d => some (.fz d)
  | .ow c => c.view.map .fz
def flatD : D → Bool
  | .none => true
  | .bool _ => true
  | .int _ => true
  | .str _ => true
  | _ => false
/-- a call that looks at its arguments and answers a number, a truth, a text or None -/
def mPeek (f : Sem) (ms : List (M AV)) : M RV := (oL ms).bind fun as => fun r => match (looks2 r as).bind (fun xs => xs.mapM Rs.view) with
  | none => none
  | some xs => match f xs with
    | some (.ok (.val d), ys) => if flatD d && decide (ys.length = xs.length) then some (.ok (.val d), r) else none
    | _ => none
end DL
end

section
namespace DL
open PySem
end DL
end

section
namespace DL
open PySem PySem.Spec PySem.Calls PyProof.Rows L2
open PySem.Sem (wp)
section
variable {prog : Program} {w : World} {A : Around} {E : Value → Shared → Prop} {s : Shared}
end
section
variable {prog : Program} {w : World} {A : Around} {E : Value → Shared → Prop} {s : Shared}
end
section
variable {X : Cx} {W : WX}
end
end DL
end

section
namespace DL
open PySem PySem.Spec PySem.Calls PyProof.Rows L2
section
variable {X : Cx} {W : WX}
end
end DL
end

section
namespace DL
open PySem PySem.Spec PySem.Calls PyProof.Rows L2
section
variable {X : Cx} {W : WX}
theorem dqa_lists {K : PySem.W.Frag} {B H : Hp} (sb : Same B H) : ∀ {as : List Addr} {rows : List (List D)}, RowsAt K B H as rows → DqAll K H (as.map V.ref) (rows.map .list)
  | _, _, .nil => .nil
  | _, _, .cons h t => by
    obtain ⟨vs, h1, h2⟩ := h
    exact .cons (.lst h1 (dpa_same sb h2)) (dqa_lists sb t)
theorem view_dq {K : PySem.W.Frag} {B H : Hp} {c : Ct} {d : D} {l : Addr} {F : List Addr} (sb : Same B H) (o : OwnR K B H c l F) (e : c.view = some d) : Dq K H (.ref l) d := by
  cases c with
  | lst ds =>
    cases e
    obtain ⟨rfl, vs, e1, h1⟩ := o
    exact .lst e1 (dpa_same sb h1)
  | ll rows =>
    cases e
    obtain ⟨as, rfl, h2, nd, ra⟩ := o
    exact .lst h2 (dqa_lists sb ra)
  | dK _ => cases e
  | dT _ => cases e
  | dl _ => cases e
  | dp _ => cases e
  | tl _ => cases e
  | obj _ _ => cases e
  | exn _ _ => cases e
  | tab _ _ => cases e
theorem views_dq {K : PySem.W.Frag} {B H : Hp} (sb : Same B H) : ∀ {xs : List Rs} {ys : List Rs} {vs : List V}, Paired (RsR K B H) xs vs → xs.mapM Rs.view = some ys → Paired (RsR K H H) ys vs ∧ ∀ y ∈ ys, ∃ d, y = .fz d
  | [], ys, _, .nil, e => by
    simp at e
    subst e
    exact ⟨.nil, fun y h => nomatch h⟩
  | x :: xs, ys, _, .cons h t, e => by
    rw [List.mapM_cons] at e
    obtain ⟨y, e1, e2⟩ := Option.bind_eq_some_iff.mp e
    obtain ⟨zs, e3, e4⟩ := Option.bind_eq_some_iff.mp e2
    cases e4
    obtain ⟨p, q⟩ := views_dq sb t e3
    cases x with
    | fz d =>
      cases e1
      exact ⟨.cons (dp_same sb h) p, fun y hy => (List.mem_cons.mp hy).elim (fun z => ⟨_, z⟩) (q y)⟩
    | ow c =>
      obtain ⟨d, e5, e6⟩ := Option.map_eq_some_iff.mp e1
      subst e6
      obtain ⟨l, F, rfl, o⟩ := h
      exact ⟨.cons (view_dq sb o e5) p, fun y hy => (List.mem_cons.mp hy).elim (fun z => ⟨_, z⟩) (q y)⟩
theorem flat_dq {K : PySem.W.Frag} {B B' : Hp} {v : V} {d : D} (h : Dq K B v d) (f : flatD d = true) : Dq K B' v d := by
  cases h with
  | non => exact .non
  | bl b => exact .bl b
  | int i => exact .int i
  | str x => exact .str x
  | lst _ _ => cases f
  | tup _ _ => cases f
  | scr _ e => subst e; cases f
  | fn _ e => subst e; cases f
  | dic _ => cases f
  | dii _ _ _ _ e => subst e; cases f
theorem con_all {K : PySem.W.Frag} {H : Hp} : ∀ {ys : List Rs} {vs : List V}, Paired (RsR K H H) ys vs → (∀ y ∈ ys, ∃ d, y = .fz d) → ∀ (i : Nat) b d, (ys.map toSl)[i]? = some (Sl.frz b d) → ∃ v, (vs.map some)[i]? = some (some v) ∧ Dq K H v d
  | _, _, .nil, _, i, b, d, e => by simp at e
  | y :: _, _, .cons h t, f, 0, b, d, e => by
    obtain ⟨d', rfl⟩ := f y (by simp)
    simp [toSl] at e
    obtain ⟨_, rfl⟩ := e
    exact ⟨_, rfl, h⟩
  | _, _, .cons h t, f, i + 1, b, d, e => by
    obtain ⟨v, h1, h2⟩ := con_all t (fun y hy => f y (by simp [hy])) i b d (by simpa using e)
    exact ⟨v, by simpa using h1, h2⟩
theorem con_peek {K : PySem.W.Frag} {H : Hp} {ys : List Rs} {vs : List V} (p : Paired (RsR K H H) ys vs) (f : ∀ y ∈ ys, ∃ d, y = .fz d) : Con K H H (vs.map some) (ys.map toSl) (fun _ => False) := by
  have no : ∀ (i : Nat) x, (ys.map toSl)[i]? = some x → ∃ d, x = Sl.frz false d := fun i x e => by
    rw [List.getElem?_map] at e
    obtain ⟨y, h1, h2⟩ := Option.map_eq_some_iff.mp e
    obtain ⟨d, rfl⟩ := f y (List.mem_of_getElem? h1)
    exact ⟨d, h2.symm⟩
  refine ⟨⟨Same.refl _, fun _ h => h.elim, fun _ h => h.elim, by rw [List.length_map, List.length_map, p.length], con_all p f, fun i b c e => ?_, fun i j b c b' c' l l' F F' ne e => ?_⟩, fun i j k e => ?_⟩
  · obtain ⟨d, h⟩ := no i _ e
    cases h
  · obtain ⟨d, h⟩ := no i _ e
    cases h
  · obtain ⟨d, h⟩ := no i _ e
    cases h
theorem de_peek {k : Nat} {f : Addr} {fd : FuncData} {ps : List Str} {sem : Sem} {x : Str} {p pos : Pos} {e : Expr} {es : List Expr} {ms : List (M AV)} (tk : L2N.Takes X W)
    (F : FnOk X.prog X.w X.K X.mg X.base (L2N.CX X.prog X.w) k f fd ps (spD X.K X.mg sem ps.length)) (hr : Room k X.A) (hg : Gl X x) (hm : X.mg x = some (.ref f)) (hk : PySem.W.keepIn X.K (.ref f) = true) (hb : Binds X.K fd ps [])
    (hn : ms.length = ps.length) (ha : DA X W (e :: es) (oL ms)) (hdb : (x == ("__debug__" : Str)) = false := by decide) (he : starEach (e :: es) X.env = (false, eval e X.env) :: starEach es X.env := by rfl) (hpl : (backTo pos (starEach es X.env)).any (·.1) = false := by rfl) :
    DE X W (.Call (.Name x p) (e :: es) [] pos) (mPeek sem ms) := pe_weak (pe_callS F hr hg hm hk hb (fun σ => L2N.passAt tk σ) ha hdb he hpl) fun σ H Q ⟨B, r, O, h⟩ => by
  have olen : ∀ (ms : List (M AV)) (r : Ro) as r', oL ms r = some (.ok as, r') → as.length = ms.length := by
    intro ms
    induction ms with
    | nil => intro r as r' e; cases e; rfl
    | cons m ms ih =>
      intro r as r' e
      unfold oL M.bind at e
      split at e
      · cases e
      · rename_i a r1 q
        simp only [M.bind] at e
        split at e
        · cases e
        · rename_i as2 r2 q2
          cases e
          rw [List.length_cons, ih _ _ _ q2, List.length_cons]
        · cases e
      · cases e
  obtain ⟨c0, o0, r0, e0, p0⟩ := h
  refine ⟨B, r, O, c0, ?_⟩
  unfold mPeek M.bind at e0
  cases q : oL ms r with
  | none => rw [q] at e0; cases e0
  | some z =>
    obtain ⟨o1, rr1⟩ := z
    rw [q] at e0
    refine ⟨o1, rr1, rfl, ?_⟩
    cases o1 with
    | exc x => cases e0; exact p0
    | ok as =>
      intro B1 H1 O1 vs s1 c1 b1 x1
      simp only at e0
      split at e0
      · cases e0
      · rename_i ys qv
        obtain ⟨xs, q2, q3⟩ := Option.bind_eq_some_iff.mp qv
        have x1 : Paired (AvR X.K B1 σ) as vs := x1
        have px := c1.looks2_ q2 x1
        obtain ⟨py, fz⟩ := views_dq c1.sub px q3
        split at e0
        · rename_i d zs q4
          split at e0
          · rename_i hc
            cases e0
            obtain ⟨hc1, hc2⟩ := Bool.and_eq_true_iff.mp hc
            refine ⟨by rw [← x1.length]; exact (olen ms r as _ q).trans hn, H1, fun _ => False, ys, con_peek py fz, .ok (.val d), zs, q4, of_decide_eq_true hc2, ?_⟩
            intro B' H' O' v s2 c2 x2
            have kp : ∀ a o, H1 a = some o → H' a = some o := fun a o h => s2.keep a o h (fun z => z)
            have sub : Same B1 H' := fun a o h => kp a o (c1.sub a o h)
            have ko : ∀ a, O1 a → H' a = H1 a := fun a h => by
              cases q5 : H1 a with
              | none => exact absurd q5 (c1.liv a h)
              | some o => exact kp a o q5
            have c3 := c1.mono (Same.refl _) sub ko c1.off
            exact p0 B1 H' O1 v (s1.trans ⟨Same.refl _, fun a o h _ => kp a o h, s2.live, fun _ _ _ h => h, fun _ h => .inl h⟩) c3 b1 (flat_dq x2 hc1)
          · cases e0
        · cases e0
end
end DL
end

section
namespace DL
open PySem
end DL
end

section
namespace DL
open PySem PySem.Spec PyProof.Rows L2
section
variable {X : Cx} {W : WX}
end
end DL
end

section
namespace DL
open PySem
def putL (kvs : List (Ky × List D)) (k : Ky) (d : D) : List (Ky × List D) :=
  if kvs.any (fun kv => decide (kv.1 = k)) then kvs.map (fun kv => if kv.1 = k then (kv.1, kv.2 ++ [d]) else kv) else kvs ++ [(k, [d])]
def lookL (kvs : List (Ky × List D)) (n : Int) : List D := ((kvs.find? fun kv => decide (kv.1 = .inl n)).map (·.2)).getD []
def dins (n : Int) : List Int → List Int
  | [] => [n]
  | m :: t => if n < m then n :: m :: t else if n = m then m :: t else m :: dins n t
/-- the numbers, each once, rising -/
def dsort (ns : List Int) : List Int := ns.foldr dins []
def sStuck : S := fun _ => none
def boolR : RV → Option Bool
  | .val (.bool b) => some b
  | _ => none
def mChainT (g' : List Rs → Option RV) (oc : M AV) (b : AV) (k : Bool) : M RV := if k then oc.bind fun c => mFin g' [b, c] else M.ret (.val (.bool false))
def mChain (g g' : List Rs → Option RV) (oa ob oc : M AV) : M RV := oa.bind fun a => ob.bind fun b => fun r => match ((looks2 r [a, b]).bind g).bind boolR with
  | none => none
  | some k => mChainT g' oc b k r
end DL
end

section
namespace DL
open PySem PySem.Spec PyProof.Rows L2
section
variable {K : PySem.W.Frag} {B H H' : Hp} {σ σ' : L2.St} {r : Ro} {O : Addr → Prop}
end
section
variable {X : Cx} {W : WX}
end
end DL
end

section
namespace DL
open PySem PySem.Spec PyProof.Rows L2
section
variable {X : Cx} {W : WX}
end
end DL
end

section
namespace DL
open PySem PySem.Spec PyProof.Rows L2
section
variable {P : Program} {w : World} {A : Around} {E : Value → Shared → Prop} {s : Shared}
/-- a set without items, as set() makes it -/
abbrev so0 (w : World) : Obj := { cls := .type "set", dict := none, data := .set #[] 0 (.fresh 0 0 (!w.params.followText "set-order")) }
/-- the state with it -/
abbrev st0 (w : World) (s : Shared) : Shared := { s with heap := s.heap.push (so0 w) }
end
end DL
end

section
namespace DL
open PySem PySem.Spec PyProof.Rows L2
theorem dins_mem {n k : Int} : ∀ {l : List Int}, k ∈ dins n l ↔ k = n ∨ k ∈ l
  | [] => by simp [dins]
  | m :: t => by
    unfold dins
    split
    · simp
    · split
      · rename_i h; subst h; simp
      · rw [List.mem_cons, dins_mem, List.mem_cons]
        constructor
        · rintro (h | h | h) <;> simp [h]
        · rintro (h | h | h) <;> simp [h]
theorem dins_pw {n : Int} : ∀ {l : List Int}, l.Pairwise (· < ·) → (dins n l).Pairwise (· < ·)
  | [], _ => by simp [dins]
  | m :: t, h => by
    obtain ⟨h1, h2⟩ := List.pairwise_cons.mp h
    unfold dins
    split
    · rename_i q
      refine List.pairwise_cons.mpr ⟨fun k hk => ?_, h⟩
      rcases List.mem_cons.mp hk with rfl | hk
      · exact q
      · have := h1 k hk
        omega
    · split
      · exact h
      · refine List.pairwise_cons.mpr ⟨fun k hk => ?_, dins_pw h2⟩
        rcases dins_mem.mp hk with rfl | hk
        · omega
        · exact h1 k hk
theorem dsort_mem {k : Int} : ∀ {l : List Int}, k ∈ dsort l ↔ k ∈ l
  | [] => by simp [dsort]
  | n :: t => by
    show k ∈ dins n (dsort t) ↔ _
    rw [dins_mem, dsort_mem, List.mem_cons]
theorem dsort_pw : ∀ l : List Int, (dsort l).Pairwise (· < ·)
  | [] => .nil
  | n :: t => dins_pw (dsort_pw t)
theorem dsort_uniq {ns ys : List Int} (h1 : ys.Pairwise (· < ·)) (h2 : ∀ k, k ∈ ys ↔ k ∈ ns) : ys = dsort ns := by
  have nd : ∀ l : List Int, l.Pairwise (· < ·) → l.Nodup := fun l h => by
    rw [List.nodup_iff_pairwise_ne]
    exact h.imp fun h => by omega
  refine List.Perm.eq_of_pairwise (le := (· < ·)) (fun a b _ _ h1 h2 => by omega) h1 (dsort_pw ns) ((List.perm_ext_iff_of_nodup (nd _ h1) (nd _ (dsort_pw ns))).mpr fun k => ?_)
  rw [h2, dsort_mem]
section
variable {X : Cx} {W : WX}
end
end DL
end

section
namespace DL
open PySem PySem.Spec PyProof.Rows L2
section
variable {K : PySem.W.Frag} {B H B' H' : Hp} {σ : L2.St} {r : Ro} {O O' : Addr → Prop}
end
section
variable {X : Cx} {W : WX}
end
end DL
end

section
namespace DL
open PySem PySem.Spec PyProof.Rows L2
section
variable {X : Cx} {W : WX}
theorem de_globI {x : Str} {n : Int} {pos : Pos} (hg : Gl X x) (hm : ∃ t, X.mg x = some (.int n t)) (hd : (x == ("__debug__" : Str)) = false := by decide) : DE X W (.Name x pos) (mC (.int n)) := by
  obtain ⟨t, hm⟩ := hm
  exact pe_weak (pe_glob (v := .int n) hg hm ⟨t, rfl⟩ hd) fun σ H Q ⟨B, r, O, c, o, r', e, p⟩ => by
    cases e
    exact p B H O (.int n) .refl c .refl (.int n)
theorem chain_read {g g' : List Rs → Option RV} {oa ob oc : M AV} {σ : L2.St} {H : Hp} {Q : VK} (h : tG (Cx.g X) W (mChain g g' oa ob oc) (rV (Cx.g X)) σ H Q) :
    tChain (fun x y H Q => ∃ B a b z, Same B H ∧ RsR X.K B H a x ∧ RsR X.K B H b y ∧ g [a, b] = some z ∧ ∀ H' v, Alc X.K B H H' z v → Q v H')
      (fun x y H Q => ∃ B a b z, Same B H ∧ RsR X.K B H a x ∧ RsR X.K B H b y ∧ g' [a, b] = some z ∧ ∀ H' v, Alc X.K B H H' z v → Q v H')
      (tG (Cx.g X) W oa (rA (Cx.g X))) (tG (Cx.g X) W ob (rA (Cx.g X))) (tG (Cx.g X) W oc (rA (Cx.g X))) σ H Q := by
  obtain ⟨B, r, O, h⟩ := h
  refine tG.of ((At.bind (R := rA (Cx.g X)) h later_rV).mono ?_)
  rintro x H1 ⟨a, B1, r1, O1, s1, x1, h1⟩
  refine tG.of ((At.bind (R := rA (Cx.g X)) h1 later_rV).mono ?_)
  rintro y H2 ⟨b, B2, r2, O2, s2, x2, c2, o, r', e, p⟩
  simp only at e
  cases q1 : ((looks2 r2 [a, b]).bind g).bind boolR with
  | none => rw [q1] at e; cases e
  | some k =>
    rw [q1] at e
    simp only at e
    obtain ⟨z, q2, q3⟩ := Option.bind_eq_some_iff.mp q1
    obtain ⟨xs, q4, q5⟩ := Option.bind_eq_some_iff.mp q2
    have hz : z = .val (.bool k) := by
      cases z with
      | new c => cases q3
      | val d => cases d with
        | bool b' => cases q3; rfl
        | _ => cases q3
    subst hz
    have px := c2.looks2_ q4 (.cons (x1.same s2.sB) (.cons x2 .nil))
    cases px with
    | cons p1 px => cases px with
      | cons p2 px =>
        cases px
        refine ⟨B2, _, _, _, c2.sub, p1, p2, q5, ?_⟩
        rintro H' v (⟨rfl, hv⟩ | ⟨q, ws, ds, o', _, _, _, ed, _⟩)
        · cases dp_bl hv
          refine ⟨k, rfl, ?_⟩
          cases k with
          | false =>
            cases e
            exact iteF (p B2 H' O2 (.bl false) .refl c2 .refl (.bl false))
          | true =>
            refine iteT (tG.of ((At.bind (m := oc) (f := fun c => mFin g' [b, c]) (R := rA (Cx.g X)) ⟨c2, o, r', e, p⟩ later_rV).mono ?_))
            rintro w H3 ⟨c, B3, r3, O3, s3, x3, h3⟩
            obtain ⟨ys, z2, sb, p3, hg, q6⟩ := h3.fin (.cons (x2.same s3.sB) (.cons x3 .nil))
            cases p3 with
            | cons y1 p3 => cases p3 with
              | cons y2 p3 =>
                cases p3
                exact ⟨B3, _, _, z2, sb, y1, y2, hg, q6⟩
        · cases ed
theorem db_chain {a b c : Expr} {op op' : CmpOp} {pos : Pos} {g g' : List Rs → Option RV} {oa ob oc : M AV} (ho : OpD X (compareOp op) g) (ho' : OpD X (compareOp op') g') (ha : DO X W a oa) (hb : DO X W b ob) (hc : DO X W c oc)
    (hm : lastMarks [op, op'] [b, c] = false := by with_unfolding_all rfl) : DB X W (.Compare a [op, op'] [b, c] pos) (mTst (mChain g g' oa ob oc)) :=
  pt_weak (pt_chain ho ho' ha hb hc hm) fun σ H Q ⟨B, r, O, h⟩ => by
    refine chain_read (tG.of ((h.bind later_rB (R := rV (Cx.g X))).mono ?_))
    rintro y H1 ⟨v, B1, r1, O1, s1, x1, h1⟩
    exact h1.ofBool x1
end
end DL
end

section
namespace DL
open PySem PySem.Spec PySem.Calls PyProof.Rows L2
section
variable {K : PySem.W.Frag} {B H : Hp} {σ : L2.St} {r : Ro} {O : Addr → Prop}
theorem get_snoc {α : Type} {l : List α} {x y : α} {i : Nat} (h : (l ++ [x])[i]? = some y) : (i < l.length ∧ l[i]? = some y) ∨ (i = l.length ∧ y = x) := by
  by_cases hi : i < l.length
  · rw [List.getElem?_append_left hi] at h
    exact .inl ⟨hi, h⟩
  · rw [List.getElem?_append_right (by omega)] at h
    by_cases h2 : i = l.length
    · subst h2
      simp at h
      exact .inr ⟨rfl, h.symm⟩
    · rw [List.getElem?_eq_none (by simp; omega)] at h
      cases h
theorem Con.snoc (c : Con K B H σ r O) {ct : Ct} {l : Addr} {F : List Addr} (o : OwnR K B H ct l F) (hF : ∀ a ∈ F, B a = none ∧ ¬ O a) (hn : noAl r r.length = true) :
    Con K B H (σ ++ [some (V.ref l)]) (r ++ [.own false ct]) (fun a => O a ∨ a ∈ F) := by
  have sg : ∀ {i : Nat} {x : Option V}, i < r.length → σ[i]? = some x → (σ ++ [some (V.ref l)])[i]? = some x := fun h e => by
    rw [List.getElem?_append_left (by rw [← c.len]; exact h)]
    exact e
  have sl : (σ ++ [some (V.ref l)])[r.length]? = some (some (V.ref l)) := by
    rw [c.len, List.getElem?_append_right (Nat.le_refl _)]
    simp
  have inv : ∀ {i : Nat} {x : Option V}, i < r.length → (σ ++ [some (V.ref l)])[i]? = some x → σ[i]? = some x := fun h e => by
    rwa [List.getElem?_append_left (by rw [← c.len]; exact h)] at e
  refine ⟨⟨c.sub, fun a h => h.elim (c.off a) fun h => (hF a h).1, fun a h => h.elim (c.liv a) fun h => ownR_some o a h, by simp [c.len], fun i b d e => ?_, fun i b ct' e => ?_, fun i j b c1 b' c2 l1 l2 F1 F2 ne e1 e2 s1 s2 o1 o2 => ?_⟩, fun i j k e b rows l1 as e1 s1 h1 => ?_⟩
  · rcases get_snoc e with ⟨hi, e⟩ | ⟨_, e⟩
    · obtain ⟨v, h1, h2⟩ := c.frz i b d e
      exact ⟨v, sg hi h1, h2⟩
    · cases e
  · rcases get_snoc e with ⟨hi, e⟩ | ⟨rfl, e'⟩
    · obtain ⟨l1, F1, h1, h2, h3⟩ := c.own i b ct' e
      exact ⟨l1, F1, sg hi h1, h2, fun a ha => .inl (h3 a ha)⟩
    · cases e'
      exact ⟨l, F, sl, o, fun a ha => .inr ha⟩
  · rcases get_snoc e1 with ⟨hi, e1⟩ | ⟨rfl, e1'⟩
    · rcases get_snoc e2 with ⟨hj, e2⟩ | ⟨rfl, e2'⟩
      · exact c.sep i j b c1 b' c2 l1 l2 F1 F2 ne e1 e2 (inv hi s1) (inv hj s2) o1 o2
      · cases e2'
        rw [sl] at s2; cases s2
        rw [ownR_uniq o o2 fun _ _ => rfl]
        obtain ⟨l3, F3, g1, g2, g3⟩ := c.own i b c1 e1
        rw [inv hi s1] at g1; cases g1
        rw [ownR_uniq g2 o1 fun _ _ => rfl]
        exact fun a ha hb => (hF a hb).2 (g3 a ha)
    · cases e1'
      rw [sl] at s1; cases s1
      rw [ownR_uniq o o1 fun _ _ => rfl]
      rcases get_snoc e2 with ⟨hj, e2⟩ | ⟨rfl, _⟩
      · obtain ⟨l3, F3, g1, g2, g3⟩ := c.own j b' c2 e2
        rw [inv hj s2] at g1; cases g1
        rw [ownR_uniq g2 o2 fun _ _ => rfl]
        exact fun a ha hb => (hF a ha).2 (g3 a hb)
      · exact absurd rfl ne
  · rcases get_snoc e with ⟨hi, e⟩ | ⟨_, e⟩
    · rcases get_snoc e1 with ⟨hj, e1⟩ | ⟨rfl, _⟩
      · obtain ⟨a, h2, h3⟩ := c.al i j k e b rows l1 as e1 (inv hj s1) h1
        exact ⟨a, h2, sg hi h3⟩
      · exact absurd e (noAl_of hn)
    · cases e
end
section
variable {X : Cx} {W : WX}
end
end DL
end

section
namespace DL
open PySem
end DL
end

section
namespace DL
open PySem PySem.Spec PySem.Calls PyProof.Rows L2
section
variable {K : PySem.W.Frag} {B H : Hp} {σ : L2.St} {r : Ro} {O : Addr → Prop}
end
section
variable {X : Cx} {W : WX}
end
end DL
end

section
namespace DL
open PySem
end DL
end

section
namespace DL
open PySem PySem.Spec PySem.Calls PyProof.Rows L2
section
variable {X : Cx} {W : WX}
end
end DL
end

section
namespace DL
open PySem
def hideSl : Sl → Sl
  | .frz b d => .frz b d
  | _ => .non
end DL
end

section
namespace DL
open PySem PySem.Spec PySem.Calls PyProof.Rows L2
section
variable {K : PySem.W.Frag} {B B' H H' : Hp} {σ : L2.St} {r : Ro} {O : Addr → Prop}
end
section
variable {X : Cx} {W : WX}
end
end DL
end

section
namespace DL
open PySem
end DL
end

section
namespace DL
open PySem PySem.Spec PySem.Calls PyProof.Rows L2
end DL
end

section
namespace DL
open PySem
end DL
end

section
namespace DL
open PySem PySem.Spec PySem.Calls PyProof.Rows L2
end DL
end

section
namespace DL
open PySem
end DL
end

section
namespace DL
open PySem PySem.Spec PySem.Calls PyProof.Rows L2
section
variable {K : PySem.W.Frag} {B H : Hp} {σ : L2.St} {r : Ro} {O : Addr → Prop}
theorem Con.put (c : Con K B H σ r O) {j : Nat} {b : Bool} {ct : Ct} {l : Addr} {F : List Addr} (hs : σ[j]? = some (some (V.ref l))) (o : OwnR K B H ct l F) (hF : ∀ a ∈ F, B a = none)
    (sep : ∀ (i : Nat) b' c' l' F', i ≠ j → r[i]? = some (Sl.own b' c') → σ[i]? = some (some (V.ref l')) → OwnR K B H c' l' F' → ∀ a ∈ F, a ∉ F') (hn : noAl r j = true) :
    Con K B H σ (r.set j (.own b ct)) (fun a => O a ∨ a ∈ F) :=
  (c.grow fun a ha => ⟨hF a ha, ownR_some o a ha⟩).replace (i := j) (x := .own b ct) rfl (fun _ _ => rfl) ⟨l, F, hs, o, fun a ha => .inr ha, sep⟩ fun _ _ _ => hn
end
section
variable {X : Cx} {W : WX}
end
end DL
end

section
namespace DL
open PySem
end DL
end

section
namespace DL
open PySem PySem.Spec PySem.Calls PyProof.Rows L2
section
variable {X : Cx} {W : WX}
end
end DL
end

section
namespace DL
open PySem
end DL
end

section
namespace DL
open PySem PySem.Spec PySem.Calls PyProof.Rows L2
section
variable {X : Cx} {W : WX}
def DEx (X : Cx) (W : WX) (i : Nat) (a : Addr) (e : Expr) (m : M RV) : Prop := PE X e (fun σ H Q => σ[i]? = some (some (V.ref a)) ∧ tG (Cx.g X) W m (rV (Cx.g X)) σ H Q)
def DAx (X : Cx) (W : WX) (i : Nat) (a : Addr) (es : List Expr) (m : M (List AV)) : Prop := PA X es (fun σ H Q => σ[i]? = some (some (V.ref a)) ∧ tG (Cx.g X) W m (rL (Cx.g X)) σ H Q)
theorem dax_nil {i : Nat} {a : Addr} : DAx X W i a [] (oL []) := pa_weak da_nil fun σ H Q h => h.2
theorem dax_cons {i : Nat} {a : Addr} {e : Expr} {es : List Expr} {m : M RV} {ms : List (M AV)} (h : DEx X W i a e m) (t : DAx X W i a es (oL ms)) (hs : starEach (e :: es) X.env = (false, eval e X.env) :: starEach es X.env := by rfl) : DAx X W i a (e :: es) (oL (oE m :: ms)) := pa_weak (pa_cons h t hs) fun σ H Q ⟨hi, B, r, O, h⟩ => by
  have h1 : At (Cx.g X) W (oE m) (rA (Cx.g X)) B r O σ H fun x H1 => ∃ a1 B1 r1 O1, Step B H O B1 H1 O1 ∧ AvR X.K B1 σ a1 x ∧ At (Cx.g X) W ((oL ms).bind fun as => M.ret (a1 :: as)) (rL (Cx.g X)) B1 r1 O1 σ H1 Q := h.bind later_rL (R := rA (Cx.g X))
  refine ⟨hi, ?_⟩
  -- the operand
  obtain ⟨c, o, r', e1, p⟩ := h1
  refine ⟨B, r, O, c, ?_⟩
  unfold oE M.bind at e1
  cases q : m r with
  | none => rw [q] at e1; cases e1
  | some z =>
    obtain ⟨o1, r1⟩ := z
    rw [q] at e1
    refine ⟨o1, r1, rfl, ?_⟩
    cases o1 with
    | exc x => cases e1; exact p
    | ok rv =>
      simp only [M.of] at e1
      cases qd : rv.data with
      | none => rw [qd] at e1; cases e1
      | some d =>
        rw [qd] at e1
        cases e1
        intro B1 H1 O1 v s1 c1 b1 x1
        obtain ⟨B2, s2, c2, dp, _⟩ := c1.frozen s1 x1 qd
        obtain ⟨a1, B3, r3, O3, s3, x3, h2⟩ := p B2 H1 O1 v s2 c2 b1 dp
        refine ⟨hi, tG.of ((h2.bind later_rL (R := rL (Cx.g X))).mono ?_)⟩
        rintro xs H2 ⟨as, B4, r4, O4, s4, x4, h3⟩
        exact h3.ret (Paired.cons (x3.same s4.sB) x4)
theorem dex_lst {i : Nat} {a : Addr} {es : List Expr} {pos : Pos} {ms : List (M AV)} (h : DAx X W i a es (oL ms)) : DEx X W i a (.List es pos) (mOp gLst ms) := pe_weak (pe_lst h) fun σ H Q ⟨hi, B, r, O, h⟩ => by
  refine ⟨hi, tG.of (h.ops.mono ?_)⟩
  rintro vs H1 ⟨B1, xs, z, sb, p, hg, q⟩
  unfold gLst at hg
  obtain ⟨ds, e1, e2⟩ := Option.bind_eq_some_iff.mp hg
  split at e2
  · rename_i hl
    cases e2
    have d := dataAll_of e1 p
    exact ⟨by rw [d.length, ← line_eq]; exact hl, alc_lst q d⟩
  · cases e2
end
end DL
end

section
namespace DL
open PySem PySem.Spec PySem.Calls PyProof.Rows L2
section
variable {X : Cx} {W : WX}
theorem kit_ref {K : PySem.W.Frag} {D T : Addr} {b : Bool} (hs : PySem.W.subIn K (.ref D) (.ref D) = some true) (hd : PySem.W.hasDictIn K T = true) (ht : PySem.W.typeIn K (.ref T) = some (.type "type")) (h : PySem.W.subIn K (.ref D) (.ref T) = some b) : PySem.W.kitOne K (.ref D) (.ref T) = some b := by
  unfold PySem.W.kitOne
  by_cases e : D = T
  · subst e
    rw [hs] at h
    cases h
    rw [if_pos (by simp)]
  · rw [if_neg (by simpa using e)]
    obtain ⟨cd, hc, _⟩ := PySem.W.any_some hd
    unfold PySem.W.kitCls
    simp only
    rw [hc, ht, if_pos (by rfl)]
    exact h
theorem kit_bty {K : PySem.W.Frag} {D : Addr} {T : String} {b : Bool} (hm : PySem.W.kitMeta T = true) (h : PySem.W.subIn K (.ref D) (.type T) = some b) : PySem.W.kitOne K (.ref D) (.type T) = some b := by
  unfold PySem.W.kitOne
  rw [if_neg (by simp)]
  unfold PySem.W.kitCls
  simp only
  rw [if_pos hm]
  exact h
end
end DL
end

section
namespace DL
open PySem
end DL
end

section
namespace DL
open PySem PySem.Spec PySem.Calls PyProof.Rows L2
section
variable {X : Cx} {W : WX}
end
end DL
end

section
namespace DL
open PySem
end DL
end

section
namespace DL
open PySem PySem.Spec PySem.Calls PyProof.Rows L2
section
variable {X : Cx} {W : WX}
end
end DL
end

section
namespace DL
open PySem
end DL
end

section
namespace DL
open PySem PySem.Spec PySem.Calls PyProof.Rows L2 RT
section
variable {X : Cx} {W : WX}
end
end DL
end

section
namespace DL
open PySem
end DL
end

section
namespace DL
open PySem PySem.Spec PySem.Calls PyProof.Rows L2
section
variable {X : Cx}
end
end DL
end

section
namespace DL
open PySem
end DL
end

section
namespace DL
open PySem PySem.Spec PySem.Calls PyProof.Rows L2 RT
section
variable {X : Cx} {W : WX}
end
end DL
end

section
namespace DL
open PySem
/-- lists and tuples alone: they lie on the heap -/
def isRow : D → Bool
  | .list _ => true
  | .tuple _ => true
  | _ => false
def shOk (d : D) : Bool := isRow d && okE d && PyData.showable d && PyData.leavesShort 13 d && decide (PyData.weight d ≤ 2 ^ 20)
def gNeS : List Rs → Option RV
  | [a, b] => match a.data, b.data with
    | some (.str x), some (.str y) => some (.val (.bool (x.cps.toList != y.cps.toList)))
    | _, _ => none
  | _ => none
end DL
namespace DL
open PySem
end DL
end

section
namespace DL
open PySem PySem.Spec PyProof.Rows L2
section
variable {X : Cx} {W : WX}
theorem dq_str {K : PySem.W.Frag} {H : Hp} {v : V} {x : Str} (h : Dq K H v (.str x)) : v = .str x := by
  generalize e : (PyData.str x : D) = d at h
  cases h with
  | str y => cases e; rfl
  | scr s h => rw [h] at e; cases e
  | fn s h => rw [h] at e; cases e
  | dii _ _ _ _ h => rw [h] at e; cases e
  | _ => cases e
theorem od_neS : OpD X (compareOp .NotEq) gNeS := by
  intro pins s σ H x y v u Q I rx ry ⟨B, a, b, z, sb, r1, r2, hg, q⟩
  unfold gNeS at hg
  simp only at hg
  split at hg
  · rename_i x y e1 e2
    cases hg
    cases dq_str (rs_dp sb r1 e1)
    cases dq_str (rs_dp sb r2 e2)
    obtain ⟨t, rfl⟩ := rx
    obtain ⟨t', rfl⟩ := ry
    exact P.ne_str ⟨.bl _, H, I, rfl, alc_val q (.bl _)⟩
  · cases hg
end
end DL
end

section
namespace DL
open PySem PySem.Spec PySem.Calls PyProof.Rows L2
section
variable {X : Cx} {W : WX}
end
end DL
end

section
namespace DL
open PySem
end DL
end

section
namespace DL
open PySem PySem.Spec PyProof.Rows L2
section
variable {K : PySem.W.Frag} {B H : Hp}
end
section
variable {X : Cx} {W : WX} {pins : List (Addr × Obj)} {σ : L2.St} {H : Hp} {s : Shared}
end
end DL
end

section
namespace DL
open PySem
end DL
end

section
namespace DL
open PySem PySem.Spec PyProof.Rows L2
section
variable {X : Cx} {W : WX}
end
end DL
end

section
namespace DL
open PySem
def fDisp (a : AV) (d : D) : M RV := fun r => match keyAt r a with
  | some k => some (.ok (.new (.dK [(k, d)])), r)
  | none => none
def mDisp1 (mk : M AV) (mv : M RV) : M RV := mk.bind fun a => (mFz mv).bind fun d => fDisp a d
end DL
end

section
namespace DL
open PySem PySem.Spec PyProof.Rows L2
section
variable {X : Cx} {W : WX}
theorem de_disp1 {k v : Expr} {pos : Pos} {mk : M AV} {mv : M RV} (hk : DO X W k mk) (hv : DE X W v mv) : DE X W (.Dict [some k] [v] pos) (mDisp1 mk mv) :=
  pe_weak (pe_disp (pps_cons hk hv pps_nil) rfl rfl (by simp) (by simp)) fun σ H Q ⟨B, r, O, c, o, r', e, pc⟩ => by
    intro p hp
    obtain ⟨bp, np, c1, s1⟩ := c.lay (o := .dK []) hp
    have hp1 : upd H p (.dK []) p = some (.dK []) := upd_same
    show tG _ _ _ _ _ _ _
    unfold mDisp1 M.bind at e
    cases qk : mk r with
    | none => rw [qk] at e; cases e
    | some z =>
      obtain ⟨ok, r1⟩ := z
      rw [qk] at e
      refine ⟨B, r, O, c1, ok, r1, qk, ?_⟩
      cases ok with
      | exc x =>
        cases e
        exact fun B' H' O' cl dx s c b y => pc B' H' O' cl dx (s1.trans s) c b (y.later s1.live)
      | ok a =>
        intro B2 H2 O2 y s2 c2 b2 x2
        simp only at e
        show tG _ _ _ _ _ _ _
        cases q2 : mFz mv r1 with
        | none => rw [q2] at e; cases e
        | some z =>
          obtain ⟨o2, r2⟩ := z
          rw [q2] at e
          refine tG.of (At.froz ⟨c2, o2, r2, q2, ?_⟩)
          cases o2 with
          | exc x =>
            cases e
            exact fun B' H' O' cl dx s c b y => pc B' H' O' cl dx ((s1.trans s2).trans s) c (b2.trans b) (y.later (s1.trans s2).live)
          | ok d =>
            intro B3 H3 O3 w s3 c3 b3 dp
            simp only at e
            unfold fDisp at e
            split at e
            · rename_i kk qkk
              cases e
              have hy := keyAt_of c3 qkk (x2.same s3.sB)
              have k2 := s2.keep p _ hp1 np
              have n2 : ¬ O2 p := fun q => (s2.nO p q).elim np fun z => by rw [hp1] at z; cases z
              have bb2 := s2.nB p (by rw [hp1]; simp) np bp
              have k3 := s3.keep p _ k2 n2
              have n3 : ¬ O3 p := fun q => (s3.nO p q).elim n2 fun z => by rw [k2] at z; cases z
              have bb3 := s3.nB p (by rw [k2]; simp) n2 bb2
              refine ⟨k3, [(kk, w)], by rw [hy]; rfl, by simp, ?_⟩
              show Q (V.ref p) (upd H3 p (.dK [(kk, w)]))
              have sub : Same B3 (upd H3 p (.dK [(kk, w)])) := fun b x q => by
                by_cases e : b = p
                · subst e; rw [bb3] at q; cases q
                · rw [upd_ne e]; exact c3.sub b x q
              have c4 := c3.mono (H' := upd H3 p (.dK [(kk, w)])) (Same.refl _) sub (fun b q => upd_ne (fun e => n3 (e ▸ q))) c3.off
              have S := (s1.trans s2).trans s3
              have st : Step B H O B3 (upd H3 p (.dK [(kk, w)])) O3 := by
                refine ⟨S.sB, fun b x hb nb => ?_, fun b hb => ?_, S.nB, S.nO⟩
                · rw [upd_ne (fun e => by rw [e, hp] at hb; cases hb)]; exact S.keep b x hb nb
                · rw [upd_ne (fun e => by rw [e, hp] at hb; exact hb rfl)]; exact S.live b hb
              exact pc B3 _ O3 (.ref p) st c4 (b2.trans b3) ⟨p, [p], rfl, ⟨rfl, _, upd_same, .cons ⟨rfl, dp⟩ .nil⟩, fun b hb => by rw [List.mem_singleton.mp hb]; exact ⟨hp, bb3, n3⟩⟩
            · cases e
end
end DL
end

section
namespace DL
open PySem
end DL
end

section
namespace DL
open PySem PySem.Spec PyProof.Rows L2
section
variable {X : Cx}
end
end DL
end

section
namespace DL
open PySem
end DL
namespace DL
open PySem
end DL
end

section
namespace DL
open PySem PySem.Spec PyProof.Rows L2
section
variable {X : Cx}
end
end DL
namespace DL
open PySem PySem.Spec PyProof.Rows L2
section
variable {X : Cx}
end
end DL
end

section
namespace DL
open PySem PySem.Spec PyProof.Rows L2
/-- a meaning that is never told -/
theorem fn_none {P : Program} {w : World} {K : PySem.W.Frag} {mg : Str → Option Value} {base : Heap} {k : Nat} {f : Addr} {fd : FuncData} {ps : List Str} : FnOk P w K mg base (L2N.CX P w) k f fd ps (spD K mg (fun _ => none) ps.length) :=
  ⟨fun vs H Q E h => h.1, fun A outer s H args us vs Q E hr he hb hv ⟨_, B, O, xs, c, o, ys, e, _⟩ => by cases e⟩
/-- the law's promise -/
theorem law_sp {K : PySem.W.Frag} {mg : Str → Option Value} {sem : Sem} {m : Nat} (h : ∀ ns : List Int, ns.length ≤ m → ∃ ys, ys.length = 1 ∧ sem [.fz (scrD ns)] = some (.ok (.val (.bool true)), ys))
    (H : Hp) (a : Addr) (ns : List Int) (hl : ns.length ≤ m) (hS : SqL K H a (ns.map V.int)) : spD K mg sem 1 [.ref a] H (fun v _ => v = .bl true) fun _ _ _ => False := by
  obtain ⟨ys, hy, e⟩ := h ns hl
  refine ⟨rfl, H, fun _ => False, [.fz (scrD ns)], ⟨⟨Same.refl _, fun _ h => h.elim, fun _ h => h.elim, rfl, fun i b d h => ?_, fun i b c h => ?_, fun i j b c b' c' l l' F F' _ h => ?_⟩, fun i j k h => ?_⟩, _, ys, e, hy, ?_⟩
  · cases i with
    | zero => cases h; exact ⟨.ref a, rfl, .scr hS rfl⟩
    | succ i => simp at h
  · cases i with
    | zero => cases h
    | succ i => simp at h
  · cases i with
    | zero => cases h
    | succ i => simp at h
  · cases i with
    | zero => cases h
    | succ i => simp at h
  · exact fun B' H' O' v _ _ x => dp_bl x
theorem cx_no {P : Program} {w : World} {H : Hp} {s s' : Shared} {e : Value} (h : L2N.CX P w [] H s (fun _ _ _ => False) e s') : False := by
  obtain ⟨_, _, _, _, _, _, _, _, _, _, _, _, z⟩ := h
  exact z
end DL
end

section
namespace DL
open PySem PySem.Spec PyProof.Rows L2
/-- what a def keeps at one around -/
def FnAt (P : Program) (w : World) (K : PySem.W.Frag) (mg : Str → Option Value) (base : Heap) (A : Around) (f : Addr) (fd : FuncData) (ps : List Str) (sp : Sp) : Prop :=
  ∀ (st : List Env) (s : Shared) (H : Hp) (as : Args) (us : List Value) (vs : List V) (Q : VK) (E : XK), Env0 P w K mg base A st s H → BindsTo s fd as (ps.zip us) → Vals vs us → sp vs H Q E →
    codeAny (model P w) A (.call (.ref f) as) (CR (L2N.CX P w) st P w H s Q E) s
theorem def_at {P : Program} {w : World} {K : PySem.W.Frag} {mg : Str → Option Value} {base : Heap} {x qual : Str} {st : Stmt} {f : Addr} {fd : FuncData} {N ps : List Str} {k : Nat} {body : S} {A : Around} (hr : Room (k + 1) A) (hG : A.guards = some [])
    (F : Fun K x qual st f fd) (Sc : FnScope N ps (defScope st)) (hn : ps.length ≤ N.length)
    (hb : ∀ (cdv : Value) (B : Around) (st' : List Env) (s : Shared) (H : Hp) (E : XK), Room k (B.deeper (envOfC qual (defScope st) s.heap.objs.size f cdv)) → (B.deeper (envOfC qual (defScope st) s.heap.objs.size f cdv)).guards = some [] →
      L2N.Takes (cxOf (L2N.CX P w) P w K mg base N qual (defScope st) f cdv B st' s H E) (fun c d _ H => E c d H) →
      DSs (cxOf (L2N.CX P w) P w K mg base N qual (defScope st) f cdv B st' s H E) (fun c d _ H => E c d H) (defBody st) body) :
    FnAt P w K mg base A f fd ps (spD K mg (defSem ps.length N.length body) ps.length) := by
  obtain ⟨c1, c2, kw, c3, c4, c5, cv, c6, c7, rfl, hf, hc⟩ := F.ex
  intro stk s H as us vs Q E env bnd rel hsp
  have here : ∀ b o, base.get? b = some o → s.heap.get? b = some o := fun b o e => (env.bs b o e).1
  have KH : K.In s.heap := env.mod.kin.keeps here
  have free : s.heap.NoLimit := env.mod.nolimit.keeps here
  have kinds : ∀ p ∈ ps.zip us, (defScope st).names.lookup p.1 = some .local ∨ ((defScope st).names.lookup p.1 = some .cell ∧ ((cellsFrom (s.heap.objs.size + 1) (defScope st).names []).lookup p.1).isSome = true) := by
    rintro ⟨n, v⟩ hp
    exact (Sc.par n (List.of_mem_zip hp).1).imp id fun q => ⟨q, PySem.W.cellsFrom_some _ _ _ (.inl q)⟩
  refine codeAny_call_function hr.depth (KH _ _ hf) rfl Sc.co Sc.gen rfl (PySem.W.codeRec_of KH hc) (bnd _ _ _ _ (wpAny_newFunctionEnv_cells Sc.kind kinds fun en hen s1 new => ?_))
  cases hen
  refine ⟨free.keeps new.toInCall.keep, codeAny_func ?_⟩
  have D := hb cv A stk s H E (hr.deeper _) hG (L2N.takes_of rfl rfl rfl rfl)
  have I0 := inv_start (CX := L2N.CX P w) (E := E) Sc hr.hd env hsp.1 rel new
  refine wpAny_mono (D.run [] s1 (start N vs) H _ I0 (def_read hn hsp)) (fun o s2 ho => ?_) fun _ _ h => h
  cases o with
  | next =>
    obtain ⟨σ2, H2, I2, q⟩ := ho
    exact ⟨.non, H2, I2.os, I2.bare, I2.base, I2.hok, rfl, q⟩
  | ret u =>
    obtain ⟨v, σ2, H2, I2, rv, q⟩ := ho
    exact ⟨v, H2, I2.os, I2.bare, I2.base, I2.hok, rv, q⟩
  | brk => exact ho.elim fun _ h => h.elim fun _ h => h.2.elim
  | cont => exact ho.elim fun _ h => h.elim fun _ h => h.2.elim
/-- a law's def asked at the top: nothing is told of the heap but the script -/
theorem ask_law {P : Program} {w : World} {K : PySem.W.Frag} {mg mb : Str → Option Value} {fa a : Addr} {fd : FuncData} {x : Str} {sp : Sp} {s : Shared} {vs : List Value} {ns : List Int}
    (KX : K.In s.heap) (n1 : s.heap.Ns mainGlobals mg) (n2 : s.heap.Ns builtinsNs mb) (n3 : ∀ x : Str, x ≠ "__name__" → mb x = bootBuiltins x) (n4 : s.heap.NoLimit) (hg : s.gens = #[])
    (ha : s.heap.get? a = some { cls := .type "list", data := .seq vs.toArray }) (hi : IntsAre vs ns) (hl : ns.length ≤ sizeLine)
    (F : ∀ base : Heap, K.In base → base.Ns mainGlobals mg → FnAt P w K mg base callerA fa fd [x] sp) (hb : ∀ (s : Shared) (u : Value), BindsTo s fd ⟨[u], []⟩ [(x, u)])
    (hsp : ∀ H : Hp, SqL K H a (ns.map V.int) → sp [.ref a] H (fun v _ => v = .bl true) fun _ _ _ => False) :
    codeAny (model P w) callerA (.call (.ref fa) ⟨[.ref a], []⟩) (fun r s' => r = .ok (.ret (.bool true)) ∧ OldK s.heap s'.heap ∧ s'.os = s.os ∧ AllBare s'.gens) s := by
  have vals := vals_ints hi
  let scr : HO := .frz { cls := .type "list", data := .seq vs.toArray } (.lst (ns.map V.int))
  suffices go : ∀ H : Hp, (∀ b u, H b = some u → b = a ∧ u = scr ∧ K.lookup a = none) → SqL K H a (ns.map V.int) →
      codeAny (model P w) callerA (.call (.ref fa) ⟨[.ref a], []⟩) (fun r s' => r = .ok (.ret (.bool true)) ∧ OldK s.heap s'.heap ∧ s'.os = s.os ∧ AllBare s'.gens) s by
    cases hk : K.lookup a with
    | none =>
      refine go (fun b => if b = a then some scr else none) (fun b u e => ?_) (.inl (.inr ⟨_, if_pos rfl⟩))
      by_cases q : b = a
      · rw [if_pos q] at e
        cases e
        exact ⟨q, rfl, hk⟩
      · rw [if_neg q] at e
        cases e
    | some o =>
      have e := ha.symm.trans (KX a o hk)
      cases e
      refine go (fun _ => none) (fun _ _ h => by cases h) (.inr ⟨_, vs.toArray, _, hk, rfl, rfl, rfl, ?_, by simpa using vals⟩)
      rw [List.size_toArray, hi.length]
      exact hl
  intro H hH sq
  have okH : HOk P w H s.heap := fun b u e => by
    obtain ⟨rfl, rfl, -⟩ := hH b u e
    exact ⟨ha, by rw [List.length_map]; exact hl, vs, _, vals, ha⟩
  have low : ∀ {b : Addr} {o : Obj}, s.heap.get? b = some o → H b = none → (hidT s.heap H).get? b = some o := fun e n => hidT_get e n
  have dic : ∀ {b : Addr} {m : Str → Option Value}, s.heap.Ns b m → (hidT s.heap H).Ns b m := by
    rintro b m ⟨o, es, ep, e, d, t⟩
    refine ⟨o, es, ep, low e ?_, d, t⟩
    cases q : H b with
    | none => rfl
    | some u =>
      obtain ⟨rfl, -, -⟩ := hH b u q
      cases ha.symm.trans e
      cases d
  have KB : K.In (hidT s.heap H) := fun b o e => low (KX b o e) (by
    cases q : H b with
    | none => rfl
    | some u =>
      obtain ⟨rfl, -, n⟩ := hH b u q
      cases n.symm.trans e)
  obtain ⟨mc, l1, l2⟩ := n4
  have env : Env0 P w K mg (hidT s.heap H) callerA [] s H :=
    ⟨rfl, ⟨KB, dic n1, ⟨mb, dic n2, n3⟩, ⟨mc, dic l1, l2⟩⟩, fun _ _ e => of_hidT e, Nat.le_of_eq (hidT_size _ _), trivial, fun b h => absurd h (by simp [frs]), okH, .of_eq hg⟩
  refine codeAny_mono (F _ KB (dic n1) [] s H ⟨[.ref a], []⟩ [.ref a] [.ref a] _ _ env (hb s (.ref a)) (.cons rfl .nil) (hsp H sq)) fun r s' h => ?_
  match r, h with
  | .error e, h => exact (cx_no h).elim
  | .ok (.ret u), ⟨v, H', os, bare, un, ok', rv, q⟩ =>
    obtain rfl : v = .bl true := q
    obtain rfl : u = Value.bool true := rv
    refine ⟨rfl, OldK.of_keep fun b o e => ?_, os, bare⟩
    cases q : H b with
    | none => exact un.keep b o e q (fun z => by simp [frs] at z) (by simp)
    | some u =>
      obtain ⟨rfl, rfl, -⟩ := hH b u q
      cases ha.symm.trans e
      exact (ok' _ _ (un.frzs _ _ _ q)).1
/-- from the meaning of the text to the row, for a law that asks for texts -/
theorem walk_dG {l : PySem.W.OpenLaw} {n : Nat} {q : Program} {loose : List Str} {XP : (Str → Option Value) → Heap → Prop} {YP : World → Heap → Prop} {d : DefRec} {K : Params → PySem.W.Frag} {x : Str} {sem : Sem}
    (hn : l.most = some n) (hz : n ≤ sizeLine) (hdf : d.params.defaults = []) (hY : ∀ (w : World) (h : Heap), YP w h → (K w.params).In h)
    (ht : ∀ ns : List Int, ns.length ≤ n → ∃ ys, ys.length = 1 ∧ sem [.fz (scrD ns)] = some (.ok (.val (.bool true)), ys))
    (F : ∀ (w : World) (mg : Str → Option Value) (fa : Addr) (h : Heap), (K w.params).In h → h.Ns mainGlobals mg → mg d.name = some (.ref fa) →
      ∃ fd : FuncData, (∀ (s : Shared) (v : Value), BindsTo s fd ⟨[v], []⟩ [(x, v)]) ∧ ∀ base : Heap, (K w.params).In base → base.Ns mainGlobals mg → FnAt l.prog w (K w.params) mg base callerA fa fd [x] (spD (K w.params) mg sem 1)) :
    PySem.W.WalkO q loose XP YP l.row.toRowW d [] (fun f vs => PySem.call f vs) := by
  refine Att.attach_call hn hdf fun w s0 s1 mg mb fa o pm cd doc a vs ns G Y ho hd hcd hmg hobj hin hlen hg => ?_
  obtain ⟨fd, hb, hF⟩ := F w mg fa _ (hY w _ Y) G.T.g hmg
  exact ask_law (hY w _ Y) G.T.g G.T.b G.T.builtins G.T.nolimit hg hobj hin (Nat.le_trans hlen hz) hF hb fun H sq => law_sp ht H a ns hlen sq
end DL
end

section
namespace DL
open PySem
def mE0 : M RV := M.ret (.val (.dict []))
mutual
/-- tuples and empty dicts alone: no list inside -/
def layT : D → Bool
  | .none => true
  | .bool _ => true
  | .int _ => true
  | .str x => PyData.strOk x
  | .tuple ds => layTs ds
  | .dict l => (l.isEmpty || oneI l) && layTd l
  | _ => false
def layTs : List D → Bool
  | [] => true
  | d :: ds => layT d && layTs ds
def layTd : List (D × D) → Bool
  | [] => true
  | (k, v) :: r => layT k && layT v && layTd r
end
def isRowT : D → Bool
  | .tuple _ => true
  | .dict [] => true
  | .dict (p :: r) => oneI (p :: r)
  | _ => false
/-- rows that can be shown -/
def shR (d : D) : Bool := ((isRow d && okE d) || (isRowT d && layT d && decide (d.depth ≤ 40))) && PyData.showable d && decide ((PyData.shown d).length ≤ lineD)
/-- what lies not on the heap -/
def shS : D → Bool
  | .none => true
  | .bool _ => true
  | .int i => decide (i.natAbs.log2 < 1920)
  | .str x => decide ((PyData.shown (.str x)).length ≤ lineD)
  | _ => false
/-- lists of things that are free of dicts, or of lists -/
def shL : D → Bool
  | .list ds => ds.all (fun d => d.canLay0 || layT d) && PyData.showableAll ds && decide (PyData.depthAll ds ≤ 40) && decide ((PyData.shown (.list ds)).length ≤ lineD)
  | _ => false
mutual
/-- any data, the dicts in it free of lists -/
def shX : D → Bool
  | .none => true
  | .bool _ => true
  | .int _ => true
  | .str _ => true
  | .list ds => shXs ds
  | .tuple ds => shXs ds
  | .dict l => (l.isEmpty || oneI l) && layTd l
def shXs : List D → Bool
  | [] => true
  | d :: ds => shX d && shXs ds
end
def shG (d : D) : Bool := isRow d && shX d && PyData.showable d && decide (d.depth ≤ 40) && decide ((PyData.shown d).length ≤ lineD)
def gReprT : List Rs → Option RV
  | [a] => match a.data with
    | some d => if (shR d || shS d) || (shL d || shG d) then some (.val (.str (PyData.shown d))) else none
    | none => none
  | _ => none
end DL
end

section
namespace DL
open PySem PySem.Spec PyProof.Rows L2
section
variable {X : Cx} {W : WX}
theorem de_e0 {pos : Pos} : DE X W (.Dict [] [] pos) mE0 := pe_weak pe_dnewK fun σ H Q ⟨B, r, O, c, o, r', e, p⟩ => by
  cases e
  intro q hq
  obtain ⟨B', s, c', l, F, e1, ⟨rfl, vs, g1, g2⟩, hF⟩ := c.alc (show Alc X.K B H (upd H q (.dK [])) (.new (.dK [])) (.ref q) from ⟨q, [], hq, rfl, .nil, rfl⟩)
  cases g2
  cases e1
  obtain ⟨n1, n2, n3⟩ := hF q (by simp)
  have c2 := c'.still g1 n2 n3
  exact p _ _ O _ ⟨s.sB.trans (same_new n2), s.keep, s.live, fun a q1 q2 q3 => by
    rw [upd_ne (show a ≠ q from fun e => q1 (by rw [e]; exact n1))]
    exact s.nB a q1 q2 q3, s.nO⟩ c2 .refl (.dic upd_same)
theorem dkD_fst : ∀ {ks : List Ky} {ds : List D}, ds.length = ks.length → (dkD ks ds).map (·.1) = ks.map kD
  | [], ds, h => by cases ds with | nil => rfl | cons _ _ => simp at h
  | k :: ks, [], h => by simp at h
  | k :: ks, d :: ds, h => by
    show kD k :: (dkD ks ds).map (·.1) = _
    rw [dkD_fst (by simpa using h)]
    rfl
theorem dkD_snd : ∀ {ks : List Ky} {ds : List D}, ds.length = ks.length → (dkD ks ds).map (·.2) = ds
  | [], ds, h => by cases ds with | nil => rfl | cons _ _ => simp at h
  | k :: ks, [], h => by simp at h
  | k :: ks, d :: ds, h => by
    show d :: (dkD ks ds).map (·.2) = _
    rw [dkD_snd (by simpa using h)]
theorem layTd_ts : ∀ {ks : List Ky} {ds : List D}, ds.length = ks.length → layTd (dkD ks ds) = true → layTs ds = true
  | [], ds, h, _ => by cases ds with | nil => rfl | cons _ _ => simp at h
  | k :: ks, [], h, _ => by simp at h
  | k :: ks, d :: ds, h, hh => by
    have hh : layTd ((kD k, d) :: dkD ks ds) = true := hh
    simp only [layTd, Bool.and_eq_true] at hh
    simp only [layTs, Bool.and_eq_true]
    exact ⟨hh.1.2, layTd_ts (by simpa using h) hh.2⟩
theorem dk_reads {P : Program} {w : World} {h : Heap} {kvs : List (Ky × V)} {vs : List (Ky × Value)} {es : List DictEntry} (r : KV kvs vs) (p : Pairs (mixKind P w) es vs) :
    ReadsAll h (es.map (·.key)) ((kvs.map (·.1)).map kD) [] ∧ Vals (kvs.map (·.2)) (es.map (·.val)) := by
  induction r generalizing es with
  | nil => cases p; exact ⟨.nil, .nil⟩
  | @cons kv u kvs vs hr _ ih =>
    cases p with
    | cons p1 p2 p3 =>
      obtain ⟨i1, i2⟩ := ih p3
      rename_i e es
      obtain ⟨r1, r2⟩ := hr
      refine ⟨?_, ?_⟩
      · have key : Reads h e.key (kD kv.1) [] := by
          rw [r1]
          have p1 : keyIs u.1 e.key = true := p1
          rcases keyIs_shape p1 with ⟨i2, t2, e2, h⟩ | ⟨x, t2, e2, h⟩
          · rw [e2, h]; exact .int _ _
          · rw [e2, h]; exact .str _ _
        exact ReadsAll.cons key i1
      · rw [List.map_cons, List.map_cons, p2]
        exact .cons r2 i2
mutual
theorem dq_readsT {pins : List (Addr × Obj)} {σ : L2.St} {H : Hp} {s : Shared} (I : Inv X pins σ H s) : ∀ {v : V} {d : D} {u : Value}, Dq X.K H v d → layT d = true → RelV v u → ∃ as, Reads s.heap u d as ∧ sysModules ∉ as
  | _, _, _, .non, _, r => by cases r; exact ⟨_, Reads.none, by simp⟩
  | _, _, _, .bl b, _, r => by cases r; exact ⟨_, Reads.bool b, by simp⟩
  | _, _, _, .int i, _, r => by obtain ⟨t, rfl⟩ := r; exact ⟨_, Reads.int i t, by simp⟩
  | _, _, _, .str x, _, r => by obtain ⟨t, rfl⟩ := r; exact ⟨_, Reads.str x t, by simp⟩
  | _, _, _, .lst _ _, h, _ => by simp [layT] at h
  | _, _, _, .scr _ e, h, _ => by subst e; simp [scrD, layT, oneI] at h
  | _, _, _, .fn _ e, h, _ => by subst e; simp [fnD, layT, oneI] at h
  | _, _, _, @Dq.dii _ _ _ kvs ds l d g a e1 e2 e3, hl, r => by
    subst e3
    cases r
    obtain ⟨_, lo, vs, rel, o, es, ep, h1, h2, h3, h4, h5, _⟩ := (show ObjOk X.prog X.w H s.heap _ (.dK kvs) from I.hok _ _ g)
    have hld : layTd l = true := by
      simp only [layT, Bool.and_eq_true] at hl
      exact hl.2
    have hdl : ds.length = (kvs.map (·.1)).length := by
      have := DqAll.length a
      rw [List.length_map] at this ⊢
      exact this.symm
    obtain ⟨k1, k2⟩ := dk_reads (h := s.heap) rel h5
    obtain ⟨as, q1, q2⟩ := dqa_readsT I a (layTd_ts hdl (by rw [← e1]; exact hld)) k2
    refine ⟨_, Reads.dict (kvs := l) h1 h2.1 h3 (as := []) (bs := as) ?_ ?_, ?_⟩
    · rw [e1, dkD_fst hdl]; exact k1
    · rw [e1, dkD_snd hdl]; exact q1
    · intro hm
      rcases List.mem_append.mp hm with hm | hm
      · rw [← List.mem_singleton.mp hm] at lo
        simp at lo
      · exact q2 hm
  | _, _, _, .tup g a, h, r => by
    cases r
    obtain ⟨its, rv, ⟨o, ho, hc, n, hd⟩, _⟩ := I.tuple (g.sq (K := X.K))
    obtain ⟨as, hr, hs⟩ := dqa_readsT I a (by simpa [layT] using h) rv
    exact ⟨_, Reads.tuple ho hc hd hr, hs⟩
  | _, _, _, .dic g, _, r => by
    cases r
    obtain ⟨_, lo, vs, rel, o, es, ep, h1, h2, h3, h4, h5, _⟩ := (show ObjOk X.prog X.w H s.heap _ (.dK []) from I.hok _ _ g)
    cases rel
    have he : es.toList = [] := by
      cases q : es.toList with
      | nil => rfl
      | cons a b => rw [q] at h5; cases h5
    refine ⟨_, Reads.dict (kvs := []) h1 h2.1 h3 (by rw [he]; exact .nil) (by rw [he]; exact .nil), ?_⟩
    intro hm
    rw [List.append_nil] at hm
    rw [← List.mem_singleton.mp hm] at lo
    simp at lo
theorem dqa_readsT {pins : List (Addr × Obj)} {σ : L2.St} {H : Hp} {s : Shared} (I : Inv X pins σ H s) : ∀ {vs : List V} {ds : List D} {us : List Value}, DqAll X.K H vs ds → layTs ds = true → Vals vs us → ∃ as, ReadsAll s.heap us ds as ∧ sysModules ∉ as
  | _, _, _, .nil, _, r => by cases r; exact ⟨_, ReadsAll.nil, by simp⟩
  | _, _, _, .cons h t, e, r => by
    simp only [layTs, Bool.and_eq_true] at e
    cases r with
    | cons r1 r2 =>
      obtain ⟨as, q1, s1⟩ := dq_readsT I h e.1 r1
      obtain ⟨bs, q2, s2⟩ := dqa_readsT I t e.2 r2
      exact ⟨_, ReadsAll.cons q1 q2, by simp [s1, s2]⟩
end
theorem row_reads {pins : List (Addr × Obj)} {σ : L2.St} {H B : Hp} {s : Shared} (I : Inv X pins σ H s) (sb : Same B H) {a : Rs} {d : D} {v : V} (p1 : RsR X.K B H a v) (e : a.data = some d) (h : shR d = true) :
    ∃ l as, v = V.ref l ∧ Reads s.heap (.ref l) d as ∧ PyData.showable d = true ∧ (d.hasDict = true → sysModules ∉ as) ∧ d.depth ≤ 40 ∧ (PyData.shown d).length ≤ sizeLine := by
  have dq := rs_dp sb p1 e
  simp only [shR, Bool.and_eq_true, Bool.or_eq_true, decide_eq_true_eq] at h
  obtain ⟨⟨h, k3⟩, k4⟩ := h
  rcases h with ⟨k1, k2⟩ | ⟨⟨k1, k2⟩, dep⟩
  · have dep := okE_dep k2
    have lay := okE_lay k2
    obtain ⟨l, rfl⟩ : ∃ l, v = V.ref l := by
      cases d with
      | list xs => obtain ⟨l, _, rfl, _⟩ := rs_list sb p1 e; exact ⟨l, rfl⟩
      | tuple xs => obtain ⟨l, _, rfl, _⟩ := rs_tuple sb p1 e; exact ⟨l, rfl⟩
      | _ => cases k1
    obtain ⟨as, rd⟩ := Dp.reads I d _ _ (dq_dp dq lay) (show RelV (.ref l) (.ref l) from rfl)
    exact ⟨l, as, rfl, rd, k3, PyData.noDict_hsm (PyData.hasDict_of_canLay d lay), dep, k4⟩
  · obtain ⟨l, rfl⟩ : ∃ l, v = V.ref l := by
      cases dq with
      | tup _ _ => exact ⟨_, rfl⟩
      | dic _ => exact ⟨_, rfl⟩
      | dii _ _ _ _ _ => exact ⟨_, rfl⟩
      | scr _ h => subst h; simp [scrD, isRowT, oneI] at k1
      | fn _ h => subst h; simp [fnD, isRowT, oneI] at k1
      | lst _ _ => cases k1
      | _ => cases k1
    obtain ⟨as, rd, hs⟩ := dq_readsT I dq k2 (show RelV (.ref l) (.ref l) from rfl)
    exact ⟨l, as, rfl, rd, k3, fun _ => hs, dep, k4⟩
theorem item_reprs {pins : List (Addr × Obj)} {σ : L2.St} {H : Hp} {s : Shared} (I : Inv X pins σ H s) {v : V} {d : D} {u : Value} (h : Dq X.K H v d) (hd : (d.canLay0 || layT d) = true) (r : RelV v u) : ∃ as, Reads s.heap u d as ∧ (d.hasDict = true → sysModules ∉ as) := by
  rcases Bool.or_eq_true_iff.mp hd with hl | hl
  · obtain ⟨as, rd⟩ := Dp.reads I d _ _ (dq_dp h hl) r
    exact ⟨as, rd, PyData.noDict_hsm (PyData.hasDict_of_canLay d hl)⟩
  · obtain ⟨as, rd, hs⟩ := dq_readsT I h hl r
    exact ⟨as, rd, fun _ => hs⟩
theorem items_repr {pins : List (Addr × Obj)} {σ : L2.St} {H : Hp} {s : Shared} (I : Inv X pins σ H s) : ∀ {vs : List V} {ds : List D} {us : List Value}, DqAll X.K H vs ds → Vals vs us → ds.all (fun d => d.canLay0 || layT d) = true → PyData.showableAll ds = true →
    (∀ t ∈ PyData.shownAll ds, t.length ≤ sizeLine) → ∃ as bs, ReadsAll s.heap us ds as ∧ ReadAtMost s.heap (PyData.depthAll ds) bs ∧ ReprAllK X.prog X.w bs s.heap (PyData.depthAll ds) us (PyData.shownAll ds)
  | _, _, _, .nil, .nil, _, _, _ => ⟨[], [], .nil, (fun _ h => nomatch h), by simp only [PyData.shownAll]; exact .nil⟩
  | _, _, _, .cons (d := d) (ds := ds) h t, .cons r1 r2, hl, hs, hz => by
    simp only [List.all_cons, Bool.and_eq_true] at hl
    have hs' : d.showable = true ∧ PyData.showableAll ds = true := by simpa [PyData.showableAll] using hs
    obtain ⟨a1, q1, n1⟩ := item_reprs I h hl.1 r1
    obtain ⟨b1, hb1, k1⟩ := ReprK.of_reads (prog := X.prog) (w := X.w) q1 hs'.1 n1 (hz _ (by simp only [PyData.shownAll]; exact List.mem_cons_self ..))
    obtain ⟨a2, b2, q2, hb2, k2⟩ := items_repr I t r2 hl.2 hs'.2 (fun t ht => hz t (by simp only [PyData.shownAll]; exact List.mem_cons_of_mem _ ht))
    refine ⟨a1 ++ a2, b1 ++ b2, .cons q1 q2, fun b hm => ?_, ?_⟩
    · simp only [PyData.depthAll]
      rcases List.mem_append.mp hm with hm | hm
      · obtain ⟨d', as', r', hd'⟩ := hb1 b hm
        exact ⟨d', as', r', Nat.le_trans hd' (Nat.le_max_left _ _)⟩
      · obtain ⟨d', as', r', hd'⟩ := hb2 b hm
        exact ⟨d', as', r', Nat.le_trans hd' (Nat.le_max_right _ _)⟩
    · simp only [PyData.depthAll, PyData.shownAll]
      exact .cons ((k1.more fun b hb => List.mem_append_left _ hb).level_le (Nat.le_max_left _ _)) (k2.more_le (fun b hb => List.mem_append_right _ hb) (Nat.le_max_right _ _))
/-- the text of a list of such things -/
theorem list_repr {pins : List (Addr × Obj)} {σ : L2.St} {H : Hp} {s : Shared} {l : Addr} {ms : List V} {ds : List D} {Q : Value → Shared → Prop} {E : Value → Shared → Prop} (I : Inv X pins σ H s) (g1 : H l = some (.lst ms)) (g2 : DqAll X.K H ms ds) (hL : shL (.list ds) = true) (hG : X.A.guards = some []) (hu : X.A.units + 64 < cLine)
    (hQ : ∀ h' u tk, (∀ b o, s.heap.get? b = some o → h'.get? b = some o) → Q (.str (PyData.shown (.list ds)) u) { s with heap := h', toks := tk }) : wpAny (model X.prog X.w) X.A (call (.builtin "repr") [.ref l]) Q E s := by
  simp only [shL, Bool.and_eq_true, decide_eq_true_eq] at hL
  obtain ⟨⟨⟨k1, k2⟩, k3⟩, k4⟩ := hL
  have k4 : (PyData.shown (.list ds)).length ≤ sizeLine := k4
  obtain ⟨_, its, n, rv, h1⟩ := (show ObjOk X.prog X.w H s.heap l (.lst ms) from I.hok l _ g1)
  have hz' : (listText (PyData.shownAll ds)).length ≤ sizeLine := by simpa only [PyData.shown] using k4
  obtain ⟨as, bs, rd, hb, hk⟩ := items_repr I g2 rv k1 k2 fun t ht => Nat.le_trans (listText_mem_le ht) hz'
  have rdl : Reads s.heap (.ref l) (.list ds) (l :: as) := .list h1 rfl rfl (by simpa using rd)
  have hna : l ∉ bs := not_mem_of_deeper rdl (by simp only [PyData.depth]; omega) hb
  have S : ShowsBy X.prog X.w s.heap l (.list ds) "list" "list.__repr__" := by
    refine ⟨F.slot_list_repr.toG, F.slot_list_str, F.slot_list_format, fun s hk0 => ⟨_, hk0 _ _ h1, rfl⟩, fun A E s Q hg hu hk0 hQ => ?_⟩
    simp only [PyData.depth] at hu
    simp only [PyData.shown] at hQ
    cases its with
    | nil =>
      cases rd
      simp only [PyData.shownAll, listText_nil] at hQ
      exact call_list_repr_empty ⟨_, hk0 _ _ h1, rfl⟩ (hk0 _ _ h1) rfl (hQ s.heap _ _ fun _ _ e => e)
    | cons x l2 =>
      exact call_list_reprK h1 rfl rfl hna (by simpa using hk.length_eq) (fun i y e => hk.item i y (by simpa using e)) hg (fun b _ => Clear.nil b) hu hk0 hQ hz'
  exact call_repr_slot (by omega) (S.typeIs s fun _ _ h => h) S.slotRepr (S.call X.A.in1 E s _ hG (by show X.A.units + 1 + (PyData.depthAll ds + 1) < cLine; omega) (fun _ _ h => h) fun h' u tk hk => ⟨_, _, rfl, hQ h' u tk hk⟩)
mutual
/-- what any data looks like as a text -/
theorem dq_reprK {pins : List (Addr × Obj)} {σ : L2.St} {H : Hp} {s : Shared} (I : Inv X pins σ H s) : ∀ {v : V} {d : D} {u : Value}, Dq X.K H v d → shX d = true → RelV v u → PyData.showable d = true → (PyData.shown d).length ≤ sizeLine →
    ∃ as bs, Reads s.heap u d as ∧ ReadAtMost s.heap d.depth bs ∧ ReprK X.prog X.w bs s.heap d.depth u (PyData.shown d)
  | _, _, _, .non, _, r, _, _ => by cases r; exact ⟨_, [], Reads.none, (fun _ h => nomatch h), by simp only [PyData.shown]; exact .of_is ReprIs.none _ _ _⟩
  | _, _, _, .bl b, _, r, _, _ => by cases r; exact ⟨_, [], Reads.bool b, (fun _ h => nomatch h), by simp only [PyData.shown]; exact .of_is (ReprIs.bool b) _ _ _⟩
  | _, _, _, .int i, _, r, hs, _ => by obtain ⟨t, rfl⟩ := r; exact ⟨_, [], Reads.int i t, (fun _ h => nomatch h), by simp only [PyData.shown]; exact .of_is (ReprIs.int t (by simpa [PyData.showable] using hs)) _ _ _⟩
  | _, _, _, .str x, _, r, _, hz => by obtain ⟨t, rfl⟩ := r; exact ⟨_, [], Reads.str x t, (fun _ h => nomatch h), by simp only [PyData.shown]; exact .of_is (ReprIs.str x t (by simpa only [PyData.shown] using hz)) _ _ _⟩
  | _, _, _, .scr _ e, h, _, _, _ => by subst e; simp [scrD, shX, oneI] at h
  | _, _, _, .fn _ e, h, _, _, _ => by subst e; simp [fnD, shX, oneI] at h
  | _, _, _, .dic g, _, r, hs, hz => by
    obtain ⟨as, q1, q2⟩ := dq_readsT I (.dic g) rfl r
    obtain ⟨bs, hb, k⟩ := ReprK.of_reads (prog := X.prog) (w := X.w) q1 hs (fun _ => q2) hz
    exact ⟨as, bs, q1, hb, k⟩
  | _, _, _, @Dq.dii _ _ _ kvs ds l d g a e1 e2 e3, h, r, hs, hz => by
    have hl : layT d = true := by
      subst e3
      simp only [shX] at h
      simp only [layT]
      exact h
    obtain ⟨as, q1, q2⟩ := dq_readsT I (.dii g a e1 e2 e3) hl r
    obtain ⟨bs, hb, k⟩ := ReprK.of_reads (prog := X.prog) (w := X.w) q1 hs (fun _ => q2) hz
    exact ⟨as, bs, q1, hb, k⟩
  | _, _, _, .lst (ds := ds) g a, h, r, hs, hz => by
    cases r
    obtain ⟨_, its, n, rv, h1⟩ := (show ObjOk X.prog X.w H s.heap _ (.lst _) from I.hok _ _ g)
    have hz' : (listText (PyData.shownAll ds)).length ≤ sizeLine := by simpa only [PyData.shown] using hz
    obtain ⟨as, bs, rd, hb, hk⟩ := dqa_reprK I a (by simpa [shX] using h) rv (by simpa [PyData.showable] using hs) fun t ht => Nat.le_trans (listText_mem_le ht) hz'
    have rdl : Reads s.heap (.ref _) (.list ds) (_ :: as) := .list h1 rfl rfl (by simpa using rd)
    have hna := not_mem_of_deeper rdl (by simp only [PyData.depth]; omega) hb
    refine ⟨_, _ :: bs, rdl, ReadAtMost.cons rdl (by simp only [PyData.depth]; omega) hb, ?_⟩
    simp only [PyData.depth, PyData.shown]
    cases its with
    | nil =>
      cases rd
      simp only [PyData.shownAll, listText_nil]
      exact ReprK.listEmpty h1 rfl rfl
    | cons x l => exact ReprK.list h1 rfl rfl hna (by simpa using hk.length_eq) (fun i y e => hk.item i y (by simpa using e))
  | _, _, _, .tup (ds := ds) g a, h, r, hs, hz => by
    cases r
    obtain ⟨its, rv, ⟨o, h1, h2, n, h3⟩, _⟩ := I.tuple (g.sq (K := X.K))
    have hz' : (tupleText (PyData.shownAll ds)).length ≤ sizeLine := by simpa only [PyData.shown] using hz
    obtain ⟨as, bs, rd, hb, hk⟩ := dqa_reprK I a (by simpa [shX] using h) rv (by simpa [PyData.showable] using hs) fun t ht => Nat.le_trans (tupleText_mem_le ht) hz'
    have rdl : Reads s.heap (.ref _) (.tuple ds) as := .tuple h1 h2 h3 (by simpa using rd)
    have hna := not_mem_of_deeper rdl (by simp only [PyData.depth]; omega) hb
    refine ⟨_, _ :: bs, rdl, ReadAtMost.cons rdl (by simp only [PyData.depth]; omega) hb, ?_⟩
    simp only [PyData.depth, PyData.shown]
    exact ReprK.tuple h1 h2 h3 hna (by simpa using hk)
theorem dqa_reprK {pins : List (Addr × Obj)} {σ : L2.St} {H : Hp} {s : Shared} (I : Inv X pins σ H s) : ∀ {vs : List V} {ds : List D} {us : List Value}, DqAll X.K H vs ds → shXs ds = true → Vals vs us → PyData.showableAll ds = true → (∀ t ∈ PyData.shownAll ds, t.length ≤ sizeLine) →
    ∃ as bs, ReadsAll s.heap us ds as ∧ ReadAtMost s.heap (PyData.depthAll ds) bs ∧ ReprAllK X.prog X.w bs s.heap (PyData.depthAll ds) us (PyData.shownAll ds)
  | _, _, _, .nil, _, r, _, _ => by cases r; exact ⟨[], [], .nil, (fun _ h => nomatch h), by simp only [PyData.shownAll]; exact .nil⟩
  | _, _, _, .cons (d := d) (ds := ds) h t, hx, r, hs, hz => by
    simp only [shXs, Bool.and_eq_true] at hx
    have hs' : d.showable = true ∧ PyData.showableAll ds = true := by simpa [PyData.showableAll] using hs
    cases r with
    | cons r1 r2 =>
      obtain ⟨a1, b1, q1, hb1, k1⟩ := dq_reprK I h hx.1 r1 hs'.1 (hz _ (by simp only [PyData.shownAll]; exact List.mem_cons_self ..))
      obtain ⟨a2, b2, q2, hb2, k2⟩ := dqa_reprK I t hx.2 r2 hs'.2 (fun t ht => hz t (by simp only [PyData.shownAll]; exact List.mem_cons_of_mem _ ht))
      refine ⟨a1 ++ a2, b1 ++ b2, .cons q1 q2, fun b hm => ?_, ?_⟩
      · simp only [PyData.depthAll]
        rcases List.mem_append.mp hm with hm | hm
        · obtain ⟨d', as', r', hd'⟩ := hb1 b hm
          exact ⟨d', as', r', Nat.le_trans hd' (Nat.le_max_left _ _)⟩
        · obtain ⟨d', as', r', hd'⟩ := hb2 b hm
          exact ⟨d', as', r', Nat.le_trans hd' (Nat.le_max_right _ _)⟩
      · simp only [PyData.depthAll, PyData.shownAll]
        exact .cons ((k1.more fun b hb => List.mem_append_left _ hb).level_le (Nat.le_max_left _ _)) (k2.more_le (fun b hb => List.mem_append_right _ hb) (Nat.le_max_right _ _))
end
/-- the text of any row -/
theorem any_repr {pins : List (Addr × Obj)} {σ : L2.St} {H : Hp} {s : Shared} {l : Addr} {d : D} {Q : Value → Shared → Prop} {E : Value → Shared → Prop} (I : Inv X pins σ H s) (g : Dq X.K H (.ref l) d) (hL : shG d = true) (hG : X.A.guards = some []) (hu : X.A.units + 64 < cLine)
    (hQ : ∀ h' u tk, (∀ b o, s.heap.get? b = some o → h'.get? b = some o) → Q (.str (PyData.shown d) u) { s with heap := h', toks := tk }) : wpAny (model X.prog X.w) X.A (call (.builtin "repr") [.ref l]) Q E s := by
  simp only [shG, Bool.and_eq_true, decide_eq_true_eq] at hL
  obtain ⟨⟨⟨⟨k0, k1⟩, k2⟩, k3⟩, k4⟩ := hL
  have k4 : (PyData.shown d).length ≤ sizeLine := k4
  cases d with
  | list ds =>
    obtain ⟨l', ms, e, g1, g2⟩ := dp_list g
    cases e
    obtain ⟨_, its, n, rv, h1⟩ := (show ObjOk X.prog X.w H s.heap l (.lst ms) from I.hok l _ g1)
    have hz' : (listText (PyData.shownAll ds)).length ≤ sizeLine := by simpa only [PyData.shown] using k4
    obtain ⟨as, bs, rd, hb, hk⟩ := dqa_reprK I g2 (by simpa [shX] using k1) rv (by simpa [PyData.showable] using k2) fun t ht => Nat.le_trans (listText_mem_le ht) hz'
    have rdl : Reads s.heap (.ref l) (.list ds) (l :: as) := .list h1 rfl rfl (by simpa using rd)
    have hna : l ∉ bs := not_mem_of_deeper rdl (by simp only [PyData.depth]; omega) hb
    have S : ShowsBy X.prog X.w s.heap l (.list ds) "list" "list.__repr__" := by
      refine ⟨F.slot_list_repr.toG, F.slot_list_str, F.slot_list_format, fun s hk0 => ⟨_, hk0 _ _ h1, rfl⟩, fun A E s Q hg hu hk0 hQ => ?_⟩
      simp only [PyData.depth] at hu
      simp only [PyData.shown] at hQ
      cases its with
      | nil =>
        cases rd
        simp only [PyData.shownAll, listText_nil] at hQ
        exact call_list_repr_empty ⟨_, hk0 _ _ h1, rfl⟩ (hk0 _ _ h1) rfl (hQ s.heap _ _ fun _ _ e => e)
      | cons x l2 =>
        exact call_list_reprK h1 rfl rfl hna (by simpa using hk.length_eq) (fun i y e => hk.item i y (by simpa using e)) hg (fun b _ => Clear.nil b) hu hk0 hQ hz'
    simp only [PyData.depth] at k3
    exact call_repr_slot (by omega) (S.typeIs s fun _ _ h => h) S.slotRepr (S.call X.A.in1 E s _ hG (by show X.A.units + 1 + (PyData.depthAll ds + 1) < cLine; omega) (fun _ _ h => h) fun h' u tk hk => ⟨_, _, rfl, hQ h' u tk hk⟩)
  | tuple ds =>
    obtain ⟨l', ms, e, g1, g2⟩ := dp_tuple g
    cases e
    obtain ⟨its, rv, ⟨o, h1, h2, n, h3⟩, _⟩ := I.tuple (g1.sq (K := X.K))
    have hz' : (tupleText (PyData.shownAll ds)).length ≤ sizeLine := by simpa only [PyData.shown] using k4
    obtain ⟨as, bs, rd, hb, hk⟩ := dqa_reprK I g2 (by simpa [shX] using k1) rv (by simpa [PyData.showable] using k2) fun t ht => Nat.le_trans (tupleText_mem_le ht) hz'
    have rdl : Reads s.heap (.ref l) (.tuple ds) as := .tuple h1 h2 h3 (by simpa using rd)
    have hna : l ∉ bs := not_mem_of_deeper rdl (by simp only [PyData.depth]; omega) hb
    have S : ShowsBy X.prog X.w s.heap l (.tuple ds) "tuple" "tuple.__repr__" := by
      refine ⟨F.slot_tuple_repr, F.slot_tuple_str, F.slot_tuple_format, fun s hk0 => ⟨_, hk0 _ _ h1, h2⟩, fun A E s Q hg hu hk0 hQ => ?_⟩
      simp only [PyData.depth] at hu
      simp only [PyData.shown] at hQ
      exact call_tuple_reprK h1 h2 h3 hna (by simpa using hk) hg (fun b _ => Clear.nil b) hu hk0 hQ hz'
    simp only [PyData.depth] at k3
    exact call_repr_slot (by omega) (S.typeIs s fun _ _ h => h) S.slotRepr (S.call X.A.in1 E s _ hG (by show X.A.units + 1 + (PyData.depthAll ds + 1) < cLine; omega) (fun _ _ h => h) fun h' u tk hk => ⟨_, _, rfl, hQ h' u tk hk⟩)
  | _ => cases k0
theorem cd_reprT (hG : X.A.guards = some []) (hu : X.A.units + 64 < cLine) : CallD X (.builtin "repr") gReprT := by
  intro pins s σ H vs us Q I r ⟨B, as, z, sb, p, hg, q⟩
  unfold gReprT at hg
  split at hg
  · rename_i a
    split at hg
    · rename_i d e
      split at hg
      · rename_i hok
        cases hg
        cases p with
        | cons p1 p =>
          cases p
          rename_i v
          by_cases h1 : shR d = true
          · obtain ⟨l, as, rfl, rd, k3, hs, dep, k4⟩ := row_reads I sb p1 e h1
            cases Vals.ref1 r
            refine repr_of_reads' rd k3 hs hG (by omega) (fun _ _ h => h) (fun h' u tk hk => ?_) k4
            exact ⟨.str _, H, I.kept hk, ⟨u, rfl⟩, alc_val q (.str _)⟩
          · by_cases h2 : shL d = true
            · cases d with
              | list ds =>
                obtain ⟨l, ms, rfl, g1, g2⟩ := rs_list sb p1 e
                cases Vals.ref1 r
                refine list_repr I g1 (dpa_same sb g2) h2 hG hu fun h' u tk hk => ?_
                exact ⟨.str _, H, I.kept hk, ⟨u, rfl⟩, alc_val q (.str _)⟩
              | _ => cases h2
            by_cases h3 : shG d = true
            · have dq := rs_dp sb p1 e
              obtain ⟨l, rfl⟩ : ∃ l, v = V.ref l := by
                cases d with
                | list xs => obtain ⟨l, _, rfl, _⟩ := rs_list sb p1 e; exact ⟨l, rfl⟩
                | tuple xs => obtain ⟨l, _, rfl, _⟩ := rs_tuple sb p1 e; exact ⟨l, rfl⟩
                | _ => cases h3
              cases Vals.ref1 r
              refine any_repr I dq h3 hG hu fun h' u tk hk => ?_
              exact ⟨.str _, H, I.kept hk, ⟨u, rfl⟩, alc_val q (.str _)⟩
            rcases Bool.or_eq_true_iff.mp ((Bool.or_eq_true_iff.mp hok).resolve_right (by rw [Bool.or_eq_true]; exact fun z => z.elim h2 h3)) with h | hok
            · exact absurd h h1
            cases r with
            | cons r1 r2 =>
              cases r2
              have dq := rs_dp sb p1 e
              cases d with
              | none =>
                cases dp_non dq
                cases r1
                exact P.repr_of_none ⟨.str _, H, I.tok _, ⟨_, rfl⟩, alc_val q (by rw [show PyData.shown PyData.none = ("None" : Str) by simp only [PyData.shown]]; exact .str _)⟩
              | bool b =>
                cases dp_bl dq
                cases r1
                exact P.repr_of_bool ⟨.str _, H, I.tok _, ⟨_, rfl⟩, alc_val q (by rw [show PyData.shown (.bool b) = ((if b then "True" else "False" : Str)) by simp only [PyData.shown]]; exact .str _)⟩
              | int i =>
                cases dp_int dq
                obtain ⟨t, rfl⟩ := r1
                exact P.repr_of_int (of_decide_eq_true hok) ⟨.str _, H, I.tok _, ⟨_, rfl⟩, alc_val q (by rw [show PyData.shown (.int i) = (toString i : Str) by simp only [PyData.shown]]; exact .str _)⟩
              | str x =>
                cases dp_str dq
                obtain ⟨t, rfl⟩ := r1
                have hl : (reprText x).length ≤ sizeLine := by
                  have := of_decide_eq_true hok
                  rwa [PyData.shown_str] at this
                exact P.repr_of_str ⟨.str _, H, I.tok _, ⟨_, rfl⟩, alc_val q (by rw [PyData.shown_str]; exact .str _)⟩ hl
              | _ => cases hok
      · cases hg
    · cases hg
  · cases hg
end
/-- what a def keeps where no text is being made -/
structure FnOkG (P : Program) (w : World) (K : PySem.W.Frag) (mg : Str → Option Value) (base : Heap) (k : Nat) (f : Addr) (fd : FuncData) (ps : List Str) (sp : Sp) : Prop where
  len : ∀ vs H Q E, sp vs H Q E → vs.length = ps.length
  run : ∀ A, Room k A → A.guards = some [] → FnAt P w K mg base A f fd ps sp
theorem FnOkG.mono {P : Program} {w : World} {K : PySem.W.Frag} {mg : Str → Option Value} {base : Heap} {j k : Nat} {f : Addr} {fd : FuncData} {ps : List Str} {sp : Sp} (F : FnOkG P w K mg base j f fd ps sp) (h : j ≤ k) : FnOkG P w K mg base k f fd ps sp :=
  ⟨F.len, fun A hr => F.run A (hr.mono h)⟩
section
variable {X : Cx} {W : WX}
end
end DL
end

section
namespace DL
open PySem
end DL
end

section
namespace DL
open PySem PySem.Spec PyProof.Rows L2
section
variable {P : Program} {w : World} {A : Around} {E : Value → Shared → Prop} {s : Shared}
end
section
variable {X : Cx} {W : WX}
end
end DL
end

section
namespace DL
open PySem
end DL
end

section
namespace DL
open PySem PySem.Spec PySem.Calls PyProof.Rows L2
section
variable {X : Cx}
end
end DL
end

section
namespace DL
open PySem
/-- str(x) of a whole number -/
def gStrI : List Rs → Option RV
  | [.fz (.int i)] => if i.natAbs.log2 < 1920 then some (.val (.str (Str.ofString (toString i)))) else none
  | _ => none
def addS : D → D → Option RV
  | .str x, .str y => if x.length + y.length ≤ lineD then some (.val (.str (x ++ y))) else none
  | _, _ => none
/-- text + text -/
def gAddS : List Rs → Option RV
  | [a, b] => match a.data, b.data with
    | some x, some y => addS x y
    | _, _ => none
  | _ => none
def strsD : List D → Option (List Str)
  | [] => some []
  | .str x :: r => (strsD r).map (x :: ·)
  | _ => none
/-- s.join(xs) of a list of texts -/
def gJoin (s : Str) : List Rs → Option RV
  | [a] => match a.data with
    | some (.list ds) => match strsD ds with
      | some ys => if (ys.map (·.length)).sum + ys.length * s.length ≤ lineD then some (.val (.str (Str.join s ys))) else none
      | none => none
    | _ => none
  | _ => none
end DL
end

section
namespace DL
open PySem PySem.Spec PySem.Calls PyProof.Rows L2
theorem strs_dq {K : PySem.W.Frag} {H : Hp} : ∀ {ds : List D} {ys : List Str} {vs : List V}, strsD ds = some ys → DqAll K H vs ds → vs = ys.map V.str
  | [], ys, vs, e, d => by
    cases e
    cases d
    rfl
  | .str x :: r, ys, vs, e, d => by
    cases d with
    | cons p q =>
      unfold strsD at e
      cases hr : strsD r with
      | none => rw [hr] at e; cases e
      | some zs =>
        rw [hr] at e
        cases e
        rw [dp_str p, strs_dq hr q]
        rfl
  | .none :: r, ys, vs, e, d => by cases e
  | .bool _ :: r, ys, vs, e, d => by cases e
  | .int _ :: r, ys, vs, e, d => by cases e
  | .list _ :: r, ys, vs, e, d => by cases e
  | .tuple _ :: r, ys, vs, e, d => by cases e
  | .dict _ :: r, ys, vs, e, d => by cases e
section
variable {X : Cx} {W : WX}
theorem cd_strI : CallD X (.type "str") gStrI := by
  intro pins s σ H vs us Q I r ⟨B, as, z, sb, p, hg, q⟩
  unfold gStrI at hg
  split at hg
  · rename_i i
    split at hg
    · rename_i hl
      cases hg
      cases p with
      | cons p1 p =>
        cases p
        cases dp_int p1
        exact call_str_int pins s σ H _ us Q I r ⟨_, rfl, hl, alc_val q (.str _)⟩
    · cases hg
  · cases hg
theorem od_addS : OpD X (binaryOp .Add) gAddS := by
  intro pins s σ H x y v u Q I rx ry ⟨B, a, b, z, sb, r1, r2, hg, q⟩
  obtain ⟨d, e, h1, h2, hf⟩ := g2_of hg
  unfold addS at hf
  split at hf
  · rename_i i j
    split at hf
    · rename_i hl
      cases hf
      exact op_add_str pins s σ H x y v u Q I rx ry ⟨i, j, rs_str r1 h1, rs_str r2 h2, by rw [← line_eq]; exact hl, alc_val q (.str _)⟩
    · cases hf
  · cases hf
theorem de_join {e : Expr} {s : Str} {k : Nat} {p apos cpos : Pos} {me : M AV} (he : DO X W e me) (hs : starEach [e] X.env = [(false, eval e X.env)] := by rfl)
    (hbase : attributeBase (.Constant (.str s) k p) "join" X.env (eval (.Constant (.str s) k p) X.env) = eval (.Constant (.str s) k p) X.env := by rfl) (hline : (apos.endLine == cpos.line) = true := by rfl) :
    DE X W (.Call (.Attribute (.Constant (.str s) k p) "join" apos) [e] [] cpos) (mOp (gJoin s) [me]) :=
  pe_weak (pe_join pe_str he hs hbase hline) fun σ H Q ⟨B, r, O, h⟩ => by
    rw [mOp_one] at h
    refine ⟨⟨s, rfl⟩, ?_⟩
    refine tG.of ((h.bind later_rV (R := rA (Cx.g X))).mono ?_)
    rintro x H1 ⟨a, B1, r1, O1, s1, x1, h1⟩
    obtain ⟨xs, z, sb, p, hg, q⟩ := h1.fin (.cons x1 .nil)
    unfold gJoin at hg
    split at hg
    · cases p with
      | cons p1 p =>
        cases p
        split at hg
        · rename_i ds e
          split at hg
          · rename_i ys hy
            split at hg
            · rename_i hl
              cases hg
              obtain ⟨l, vs, rfl, h1, d1⟩ := rs_list sb p1 e
              have hv := strs_dq hy d1
              subst hv
              refine ⟨s, l, ys, rfl, rfl, .inl (.of h1), hl, ?_⟩
              rw [TL.join_eq]
              exact alc_val q (.str _)
            · cases hg
          · cases hg
        · cases hg
    · cases hg
end
end DL
end

section
namespace DL
open PySem
end DL
end

section
namespace DL
open PySem PySem.Spec PyProof.Rows L2
section
variable {X : Cx}
end
end DL
end

section
namespace DL
open PySem
end DL
end

section
namespace DL
open PySem PySem.Spec PyProof.Rows L2
section
variable {X : Cx} {W : WX}
end
end DL
end

section
namespace DL
open PySem
def endTry (i : Nat) : Option (SO × Ro) → Option (SO × Ro)
  | some (.nx, r2) => match r2[i]? with
    | some z => if putSl.pinnedB z = false then some (.nx, r2.set i .non) else none
    | none => none
  | some (.ret v, r2) => match r2[i]? with
    | some z => if putSl.pinnedB z = false then some (.ret v, r2.set i .non) else none
    | none => none
  | _ => none
end DL
end

section
namespace DL
open PySem PySem.Spec PySem.Calls PyProof.Rows L2
section
variable {X : Cx} {W : WX}
def tX (X : Cx) (W : WX) (i : Nat) (a : Addr) (m : S) : TS := fun D σ H => σ[i]? = some (some (V.ref a)) ∧ tS (Cx.g X) W m D σ H
theorem dxx_of {i : Nat} {a : Addr} {sts : List Stmt} {m : S} (h : DSs X W sts m) : PSs X sts (tX X W i a m) := pss_weak h fun D σ H h => h.2
theorem dxx_set {i j : Nat} {a : Addr} {x : Str} {e : Expr} {pos pos' : Pos} {sts : List Stmt} {m : M RV} {m2 : S} (hN : X.N.Nodup) (hi : X.N[j]? = some x) (hx : Loc X.env.scope x) (he : DEx X W i a e m) (ht : PSs X sts (tX X W i a m2)) (hne : j ≠ i := by decide)
    (hs : swapsWith e (some (.Name x pos')) pos.line X.env = pure false := by rfl)
    (hf : X.fn x = true ∨ X.env.scope.names.lookup x = some .local := by first | exact .inl rfl | exact .inr rfl | assumption) : PSs X (.Assign [.Name x pos'] e pos :: sts) (tX X W i a (sSeq (sSet j m) m2)) :=
  pss_weak (pss_cons (ps_set hN hi hx he hs hf) ht) fun D σ H ⟨hi, B, r, O, h⟩ => by
    refine ⟨hi, tG.of (h.seq.ex.mono ?_)⟩
    rintro y H1 ⟨v, B1, r1, O1, s1, b1, x1, c1, o, r', e, p⟩
    obtain ⟨rfl, O2, c2, b2, h2⟩ := put_ok c1 e x1 s1.live
    exact ⟨by rw [List.getElem?_set_ne hne]; exact hi, p B1 H1 O2 _ (put_step s1 h2) c2 (b1.trans b2)⟩
theorem call_reads {n : Nat} {sem : Sem} {ms : List (M AV)} {σ : L2.St} {H : Hp} {Q : VK} (hn : ms.length = n) (h : tG (Cx.g X) W (mCall sem ms) (rV (Cx.g X)) σ H Q) :
    tCallS (spD X.K X.mg sem n) (fun σ => WE W σ) (tG (Cx.g X) W (oL ms) (rL (Cx.g X))) σ H Q := by
  obtain ⟨B, r, O, h⟩ := h
  have olen : ∀ (ms : List (M AV)) (r : Ro) as r', oL ms r = some (.ok as, r') → as.length = ms.length := by
    intro ms
    induction ms with
    | nil => intro r as r' e; cases e; rfl
    | cons m ms ih =>
      intro r as r' e
      unfold oL M.bind at e
      split at e
      · cases e
      · rename_i a r1 q
        simp only [M.bind] at e
        split at e
        · cases e
        · rename_i as2 r2 q2
          cases e
          rw [List.length_cons, ih _ _ _ q2, List.length_cons]
        · cases e
      · cases e
  obtain ⟨c0, o0, r0, e0, p0⟩ := h
  have hlen : ∀ as r1, oL ms r = some (.ok as, r1) → as.length = n := fun as r1 q => (olen ms r as r1 q).trans hn
  have h : At (Cx.g X) W (mCall sem ms) (rV (Cx.g X)) B r O σ H Q := ⟨c0, o0, r0, e0, p0⟩
  refine ⟨B, r, O, c0, ?_⟩
  unfold mCall M.bind at e0
  cases q : oL ms r with
  | none => rw [q] at e0; cases e0
  | some z =>
    obtain ⟨o1, r1⟩ := z
    rw [q] at e0
    refine ⟨o1, r1, rfl, ?_⟩
    cases o1 with
    | exc x => cases e0; exact p0
    | ok as =>
      intro B1 H1 O1 vs s1 c1 b1 x1
      simp only at e0
      cases q2 : looks r1 as with
      | none => rw [q2] at e0; cases e0
      | some xs =>
        rw [q2] at e0
        simp only at e0
        split at e0
        · rename_i nd
          cases q3 : sem xs with
          | none => rw [q3] at e0; cases e0
          | some z3 =>
            obtain ⟨o3, ys⟩ := z3
            rw [q3] at e0
            simp only at e0
            split at e0
            · rename_i hl
              cases e0
              have x1 : Paired (AvR X.K B1 σ) as vs := x1
              refine ⟨by rw [← x1.length]; exact hlen as r1 q, B1, lent X.K B1 H1 O1 xs vs, xs, call_in c1 q2 x1 nd.1, o0, ys, q3, hl, ?_⟩
              cases o0 with
              | ok rv =>
                intro B' H' O' v s2 c2 x2
                obtain ⟨O2, s3, c3, b3, ho⟩ := call_out c1 q2 x1 nd.1 nd.2 hl s2 c2
                refine p0 B' H' O2 v (s1.trans s3) c3 (b1.trans b3) (later_rV H H1 B' H' O2 σ rv v s1.live ?_)
                cases rv with
                | val d => exact x2
                | new ct =>
                  obtain ⟨l, F, e1, o, hF⟩ := x2
                  refine ⟨l, F, e1, o, fun a ha => ⟨(hF a ha).1, (hF a ha).2.1, fun z => ?_⟩⟩
                  rcases ho a z with z | z
                  · exact c1.liv a z (hF a ha).1
                  · exact (hF a ha).2.2 z
              | exc x =>
                intro B' H' O' c dx s2 c2 x2
                obtain ⟨O2, s3, c3, b3, ho⟩ := call_out c1 q2 x1 nd.1 nd.2 hl s2 c2
                exact p0 B' H' O2 c dx (s1.trans s3) c3 (b1.trans b3) ((x2.out ho c1.liv).later s1.live)
            · cases e0
        · cases e0
theorem oE_reads {m : M RV} {σ : L2.St} {H : Hp} {Q : VK} (h : tG (Cx.g X) W (oE m) (rA (Cx.g X)) σ H Q) : tG (Cx.g X) W m (rV (Cx.g X)) σ H Q := by
  obtain ⟨B, r, O, c, o, r', e, p⟩ := h
  refine ⟨B, r, O, c, ?_⟩
  unfold oE M.bind at e
  cases q : m r with
  | none => rw [q] at e; cases e
  | some z =>
    obtain ⟨o1, r1⟩ := z
    rw [q] at e
    refine ⟨o1, r1, rfl, ?_⟩
    cases o1 with
    | exc x => cases e; exact p
    | ok rv =>
      simp only [M.of] at e
      cases qd : rv.data with
      | none => rw [qd] at e; cases e
      | some d =>
        rw [qd] at e
        cases e
        intro B1 H1 O1 v s1 c1 b1 x1
        obtain ⟨B2, s2, c2, dp, _⟩ := c1.frozen s1 x1 qd
        exact p B2 H1 O1 v s2 c2 b1 dp
theorem dex_bin {i : Nat} {ad : Addr} {a b : Expr} {op : Operator} {pos : Pos} {g : List Rs → Option RV} {oa : M AV} {m : M RV} (ho : OpD X (binaryOp op) g) (ha : DO X W a oa) (hb : DEx X W i ad b m) : DEx X W i ad (.BinOp a op b pos) (mOp g [oa, oE m]) :=
  pe_weak (pe_op ho ha hb) fun σ H Q ⟨hi, B, r, O, h⟩ => by
    rw [mOp_two] at h
    refine tG.of ((h.bind later_rV (R := rA (Cx.g X))).mono ?_)
    rintro x H1 ⟨a, B1, r1, O1, s1, x1, h1⟩
    refine ⟨hi, oE_reads (tG.of ((h1.bind later_rV (R := rA (Cx.g X))).mono ?_))⟩
    rintro y H2 ⟨b, B2, r2, O2, s2, x2, h2⟩
    obtain ⟨xs, z, sb, p, hg, q⟩ := h2.fin (.cons (x1.same s2.sB) (.cons x2 .nil))
    cases p with
    | cons p1 p => cases p with
      | cons p2 p =>
        cases p
        exact ⟨B2, _, _, z, sb, p1, p2, hg, q⟩
end
end DL
end

section
set_option maxHeartbeats 2000000
namespace DL
open PySem PySem.Spec PySem.Calls PyProof.Rows L2
abbrev HotC := L2H.HotC
/-- the turning of a range's iterator where an exception is handled -/
structure TurnK (P : Program) (w : World) (K : PySem.W.Frag) (tg : Expr) (J : It) (it : Addr) (tn : Nat → Heap → Prop) : Prop where
  obj : ∀ i h, tn i h → ∃ o, h.get? it = some o ∧ ∀ v, o.data ≠ .cell v
  keep : ∀ i h h', tn i h → (∀ o, h.get? it = some o → h'.get? it = some o) → tn i h'
  item : ∀ (X : Cx), X.prog = P → X.w = w → X.K = K → ∀ (i : Nat) (pins : List (Addr × Obj)) (s : Shared) (σ : L2.St) (H : Hp) (E : Value → Shared → Prop), Inv X pins σ H s → FpOk X pins H it → tn i s.heap → J.go i H →
    wpAny (model P w) X.A (pyNext (.ref it)) (fun r s1 => ∃ u, r = some u ∧
      wpAny (model P w) X.A (letOwnedTupleGo tg (.ref it) u) (fun _ s2 => ∃ x H', Inv X pins σ H' s2 ∧ RelV x u ∧ J.yld i H x H' ∧ tn (i + 1) s2.heap ∧ H' it = none) E s1) E s
  done : ∀ (X : Cx), X.prog = P → X.w = w → X.K = K → ∀ (i : Nat) (pins : List (Addr × Obj)) (s : Shared) (σ : L2.St) (H : Hp) (E : Value → Shared → Prop) (x1 : Addr), HotX.HotAt X.A x1 s.heap → Inv X pins σ H s → FpOk X pins H it → tn i s.heap → J.stop i H →
    wpAny (model P w) X.A (pyNext (.ref it)) (fun r s1 => r = none ∧ Inv X pins σ H s1) E s
  self : ∀ (A : Around) (i : Nat) (s : Shared) (Q : Value → Shared → Prop) (E : Value → Shared → Prop), tn i s.heap → Q (.ref it) s → wpAny (model P w) A (pyIter (.ref it)) Q E s
theorem turnK_range {P : Program} {w : World} {K : PySem.W.Frag} {tg : Expr} (it : Addr) (lo : Int) (n : Nat) : TurnK P w K tg (Itr lo n) it (fun i h => IsRangeIter h it (lo + (i : Nat) * 1) ((n : Int) - (i : Nat)) 1) where
  obj := fun i h st => ⟨_, st, fun v z => by cases (show Data.fields _ = Data.cell v from z)⟩
  keep := fun i h h' st k => k _ st
  item := by
    intro X hP hw hK i pins s σ H E I hf st hg
    subst hP hw hK
    obtain ⟨f0, f1, f2, f3, f4, f5⟩ := hf
    have hlt : i < n := hg
    refine wpAny_pyNext_range_item st (by omega) fun h' st' sb => ?_
    have st2 : IsRangeIter h' it (lo + ((i + 1 : Nat) : Int) * 1) ((n : Int) - ((i + 1 : Nat) : Int)) 1 := by
      rw [show lo + ((i + 1 : Nat) : Int) * 1 = lo + ((i : Nat) : Int) * 1 + 1 by omega, show (n : Int) - ((i + 1 : Nat) : Int) = (n : Int) - ((i : Nat) : Int) - 1 by omega]
      exact st'
    have I1 : Inv X pins σ H { s with heap := h', toks := s.toks + 1 } := I.turned (fun b o hb e => (sb.2 b hb).trans e) f0 f1 f3 f4 f5
    refine ⟨_, rfl, go_of (s := { s with heap := h', toks := s.toks + 1 }) (n := "range_iterator") st2 rfl rfl (by decide) ⟨.int (lo + i), H, I1, ⟨s.toks, ?_⟩, ⟨rfl, rfl⟩, st2, f0⟩⟩
    rw [Int.mul_one]
  done := by
    intro X hP hw hK i pins s σ H E x1 hot I hf st hg
    subst hP hw hK
    obtain ⟨f0, f1, f2, f3, f4, f5⟩ := hf
    exact HotX.pyNext_range_end_hot hot st (by have : n ≤ i := hg; omega) fun h' eb => ⟨rfl, I.turned (t' := s.toks) (fun b o _ e => eb b o e) f0 f1 f3 f4 f5⟩
  self := fun _ _ _ _ _ st h => wpAny_pyIter_rangeiter st h
def PIEK (X : Cx) (pins : List (Addr × Obj)) (σ : L2.St) (tg : Expr) (R : It → Hp → Prop) (itv : Value) (s2 : Shared) : Prop :=
  ∃ (it : Addr) (tn : Nat → Heap → Prop) (J : It) (H' : Hp), itv = .ref it ∧ Inv X pins σ H' s2 ∧ TurnK X.prog X.w X.K tg J it tn ∧ tn 0 s2.heap ∧ FpOk X pins H' it ∧ R J H'
structure PIK (X : Cx) (tg iter : Expr) (wi : TI) : Prop where
  run : ∀ (pins : List (Addr × Obj)) (s : Shared) (σ : L2.St) (H : Hp) (R : It → Hp → Prop), Inv X pins σ H s → wi σ H R →
    wpAny (model X.prog X.w) X.A (eval iter X.env) (fun v s1 => wpAny (model X.prog X.w) X.A (pyIter v) (PIEK X pins σ tg R) X.xe s1) X.xe s
section
variable {X : Cx} {tg : Expr}
theorem range_itK {pins : List (Addr × Obj)} {σ : L2.St} {H : Hp} {s : Shared} {R : It → Hp → Prop} {E : Value → Shared → Prop} {lo hi : Int} {t u v : Tok} {tk : Nat} (I : Inv X pins σ H s) (h1 : -(2 ^ 62) ≤ lo) (h2 : lo < 2 ^ 62) (h3 : -(2 ^ 62) ≤ hi) (h4 : hi < 2 ^ 62)
    (q : R (Itr lo (hi - lo).toNat) H) : wpAny (model X.prog X.w) X.A (pyIter (.ref s.heap.objs.size)) (PIEK X pins σ tg R) E { s with heap := s.heap.push { cls := .type "range", data := .fields #[.int lo t, .int hi u, .int 1 v] }, toks := tk } := by
  refine wpAny_pyIter_range (IsRange.new ..) (small_one h1 h2 h3 h4) ?_
  have I1 : Inv X pins σ H { s with heap := s.heap.push { cls := .type "range", data := .fields #[.int lo t, .int hi u, .int 1 v] }, toks := tk } := I.kept fun b o e => Heap.get?_push_of_some _ e
  refine ⟨_, _, _, H, rfl, I1.kept (t' := tk) fun b o e => Heap.get?_push_of_some _ e, turnK_range _ lo (hi - lo).toNat, ?_, I1.fpOk (Nat.le_refl _) (I1.hok.fresh (Nat.le_refl _)), q⟩
  have e1 : lo + ((0 : Nat) : Int) * 1 = lo := by simp
  have e2 : (((hi - lo).toNat : Nat) : Int) - ((0 : Nat) : Int) = Builtin.Range.rangeSize lo hi 1 := by rw [rangeSize_one]; split <;> omega
  show IsRangeIter _ _ (lo + ((0 : Nat) : Int) * 1) ((((hi - lo).toNat : Nat) : Int) - ((0 : Nat) : Int)) 1
  rw [e1, e2]
  exact Heap.get?_push_size _ rfl
theorem pik_rng1 {a : Expr} {ta : TA} {p pos : Pos} (hg : Gl X "range") (hm : X.mg "range" = none) (ha : PA X [a] ta) (hs : starEach [a] X.env = [(false, eval a X.env)] := by rfl) : PIK X tg (.Call (.Name "range" p) [a] [] pos) (iRng1 ta) := by
  refine ⟨fun pins s σ H R I h => ?_⟩
  refine Call_ (ld_blt I hg hm boot_range (PyProof.Rows.callWith_type1 (thn (ha.run pos pins s σ H _ I h) fun us s1 ⟨vs, H1, I1, r1, q1⟩ => ?_) hs rfl))
  obtain ⟨hi, e, q1, q2, q⟩ := q1
  subst e
  cases r1 with
  | cons r rr =>
    cases rr
    obtain ⟨t, rfl⟩ := r
    exact call_range_1 (range_itK I1 (by omega) (by omega) q1 q2 (by simpa using q))
theorem takesN0 {X : Cx} : L2N.Takes X (fun _ _ _ _ => False) := fun _ _ x => by
  obtain ⟨_, _, _, _, _, _, _, _, _, _, _, _, _, _, _, _, z⟩ := x
  exact z.elim
/-- the handled exception stands where a block is entered -/
def HotIn (X : Cx) (s : Shared) (H : Hp) (fp : List Addr) : Prop := ∃ p : Addr × Obj, L2H.Hot1 X.A p ∧ s.heap.get? p.1 = some p.2 ∧ H p.1 = none ∧ p.1 ∉ frs X.stack ∧ p.1 ∉ fp
theorem HotIn.at {X : Cx} {s s' : Shared} {H H' : Hp} {fp : List Addr} {scope : Scope} {ce : Env} {pins : List (Addr × Obj)} {σ : L2.St} (h : HotIn X s H fp) (I : Inv (X.blk s H scope ce fp) pins σ H' s') : ∃ x1, HotX.HotAt X.A x1 s'.heap := by
  obtain ⟨p, ⟨hh, v1, e1, c1⟩, h1, h2, h3, h4⟩ := h
  exact ⟨p.1, hh, p.2, v1, I.base.keep p.1 p.2 h1 h2 h3 h4, e1, c1⟩
/-- a pin as it stands where a block is entered -/
def StdIn (X : Cx) (s : Shared) (H : Hp) (fp : List Addr) (p : Addr × Obj) : Prop := s.heap.get? p.1 = some p.2 ∧ H p.1 = none ∧ p.1 ∉ frs X.stack ∧ p.1 ∉ fp
def PinIn (X : Cx) (s : Shared) (H : Hp) (fp : List Addr) : Prop := ∀ p ∈ X.pn, StdIn X s H fp p
theorem lc_coreK {pins : List (Addr × Obj)} {s : Shared} {σ : L2.St} {H : Hp} {Q : VK} {elt iter : Expr} {ifs : List Expr} {scope : Scope} {own : List (Str × Nat)} {pos pos' : Pos} {wi : TI} {g : TG} {tt : TT} {te : TE} {use : Option (Value → PySem.Sem Unit)} {Qf : Value → Shared → Prop}
    (hc : HotC X) (hN : X.N.Nodup) (I : Inv X pins σ H s) (hi : PIK X tg iter wi) (ok : BlkOk X.N X.env.scope scope own)
    (hg : ∀ (s : Shared) (H : Hp) (C : Addr) (cl : List (Str × Addr)) (fp : List Addr), HotIn X s H fp → PG (X.blk s H scope (compEnvC scope cl C X.env) fp) tg g) (ht : ∀ (s : Shared) (H : Hp) (C : Addr) (cl : List (Str × Addr)) (fp : List Addr), PinIn X s H fp → PTs (X.blk s H scope (compEnvC scope cl C X.env) fp) ifs tt)
    (he : ∀ (s : Shared) (H : Hp) (C : Addr) (cl : List (Str × Addr)) (fp : List Addr), PE (X.blk s H scope (compEnvC scope cl C X.env) fp) elt te) (hs : ∀ x, foldedSetIterable iter X.env x = pure x)
    (h : tLc wi g tt te (own.map (·.2)) σ H Q)
    (hRR : ∀ D C s' m H', Inv X pins σ H' s' → Q (.ref D) H' → s'.heap.Ns C m → FpOk X pins H' C → compPost (model X.prog X.w) X.A X.xe use Qf (.ref D) C (.ok .next) s') :
    wpAny (model X.prog X.w) X.A (comprehension (.ListComp elt [⟨tg, iter, ifs, 0⟩] scope pos) scope X.env pos' (newList []) false (eval iter X.env) use) Qf X.xe s := by
  have hfree : ∀ y ∈ scope.names, y.2 = .free → ∃ c, X.env.cells.lookup y.1 = some c := fun y hy e => (ok.free y hy e).elim (fun k => I.ok.has _ (.inl k)) fun k => I.ok.has _ (.inr k)
  refine wpAny_comprehension_free (use := use) rfl hs (closure_ok hfree) ok.kind (fun y hy e => by rw [ok.uniq y hy, e]) (thn (hi.run pins s σ H _ I h) fun xv s1 hx => thn hx fun itv s2 h2 => ?_)
  obtain ⟨it, tn, J, H2, e, I2, T, st2, f2, q⟩ := h2
  subst e
  refine wpAny_newObj_type (newEnv_comp ?_) (by show 0 ≤ sizeLine; decide)
  generalize hD : s2.heap.objs.size = D
  have hDn : H2 D = none := I2.hok.fresh (Nat.le_of_eq hD)
  obtain ⟨W, ⟨m0, w0⟩, turn⟩ := q D hDn
  generalize hs3 : ({ s2 with heap := s2.heap.push { cls := .type "list", data := .seq ([] : List Value).toArray } } : Shared) = s3
  have h3 : s3.heap = s2.heap.push { cls := .type "list", data := .seq ([] : List Value).toArray } := by rw [← hs3]
  have I3 : Inv X pins σ (upd H2 D (.lst [])) s3 := by
    rw [← hs3]
    refine I2.laid (t' := s2.toks) (fun b o e => Heap.get?_push_of_some _ e) (Nat.le_of_eq hD) ⟨Nat.zero_le _, [], 0, .nil, ?_⟩
    rw [← hD]
    exact Heap.get?_push_size _ rfl
  have hlt : it < s2.heap.objs.size := by
    obtain ⟨o, e, _⟩ := T.obj _ _ st2
    exact Heap.lt_size e
  have f3 : FpOk X pins (upd H2 D (.lst [])) it := ⟨by rw [upd_ne (by rw [← hD]; exact Nat.ne_of_lt hlt)]; exact f2.1, f2.2⟩
  have f3s : it < s3.heap.objs.size := by rw [h3, Heap.size_push]; exact Nat.lt_succ_of_lt hlt
  have f3L : ∀ b ∈ [it], FpOk X pins (upd H2 D (.lst [])) b ∧ b < s3.heap.objs.size := fun b hb => by
    rw [List.mem_singleton.mp hb]
    exact ⟨f3, f3s⟩
  have st3 : tn 0 s3.heap := T.keep _ _ _ st2 fun o e => by rw [h3]; exact Heap.get?_push_of_some _ e
  have I4 := block_start I3 ok hN f3L
  have hIn : HotIn X s3 (upd H2 D (.lst [])) [it] := by
    obtain ⟨p, h1, hp⟩ := hc
    have P := I3.pin p (List.mem_append_left _ hp)
    exact ⟨p, h1, P.1, P.2.1, fun hm => (List.mem_cons.mp (I3.stkSub p.1 hm)).elim P.2.2.1 P.2.2.2.1, fun hm => f3.2.2.2.2.2 p (List.mem_append_left _ hp) (List.mem_singleton.mp hm)⟩
  have hPn : PinIn X s3 (upd H2 D (.lst [])) [it] := fun p hp => by
    have P := I3.pin p (List.mem_append_left _ hp)
    exact ⟨P.1, P.2.1, fun hm => (List.mem_cons.mp (I3.stkSub p.1 hm)).elim P.2.2.1 P.2.2.2.1, fun hm => f3.2.2.2.2.2 p (List.mem_append_left _ hp) (List.mem_singleton.mp hm)⟩
  have pg := hg s3 (upd H2 D (.lst [])) s3.heap.objs.size (cellsFrom (s3.heap.objs.size + 1) scope.names (cloFrom X.env.cells scope.names [])) [it] hIn
  have pt := ht s3 (upd H2 D (.lst [])) s3.heap.objs.size (cellsFrom (s3.heap.objs.size + 1) scope.names (cloFrom X.env.cells scope.names [])) [it] hPn
  have pe := he s3 (upd H2 D (.lst [])) s3.heap.objs.size (cellsFrom (s3.heap.objs.size + 1) scope.names (cloFrom X.env.cells scope.names [])) [it]
  show codeAny _ _ (.compStart (.ListComp elt [⟨tg, iter, ifs, 0⟩] scope pos) 0 (.ref it) (.ref D) (compEnvC scope (cellsFrom (s3.heap.objs.size + 1) scope.names (cloFrom X.env.cells scope.names [])) s3.heap.objs.size X.env)) (compPost (model X.prog X.w) X.A X.xe use Qf (.ref D) s3.heap.objs.size) { s3 with heap := pushCells (s3.heap.push { cls := .type "dict", data := .dict #[] }) scope.names }
  have nit : (upd H2 D (.lst [])) it = none := f3.1
  generalize hce : compEnvC scope (cellsFrom (s3.heap.objs.size + 1) scope.names (cloFrom X.env.cells scope.names [])) s3.heap.objs.size X.env = ce at I4 pg pt pe ⊢
  have cL : ce.locals = s3.heap.objs.size := by subst hce; rfl
  generalize hH3 : upd H2 D (.lst []) = H3 at I3 I4 pg pt pe w0 nit f3 f3L
  generalize hs4 : ({ s3 with heap := pushCells (s3.heap.push { cls := .type "dict", data := .dict #[] }) scope.names } : Shared) = s4 at I4 ⊢
  have st4 : tn 0 s4.heap := T.keep _ _ _ st3 fun o e => by rw [← hs4]; exact pushCells_keeps _ _ _ _ (Heap.get?_push_of_some _ e)
  have stat : ∀ {σ' : L2.St} {H' : Hp} {s' : Shared}, Inv (X.blk s3 H3 scope ce [it]) [] σ' H' s' → H' it = none → FpOk (X.blk s3 H3 scope ce [it]) [] H' it := fun {σ' H' s'} I' hn =>
    ⟨hn, (I'.ok.exf it (List.mem_singleton.mpr rfl)).1, I'.ok.exfs it (List.mem_singleton.mpr rfl), .inl (List.mem_singleton.mpr rfl), fun x c e => (I'.ok.exf it (List.mem_singleton.mpr rfl)).2 x c e, fun p hp => absurd (show p ∈ ([] : List (Addr × Obj)) ++ [] from hp) (by simp)⟩
  -- the handled exception stands as it was
  have hotB : ∀ {σ' : L2.St} {H' : Hp} {s' : Shared}, Inv (X.blk s3 H3 scope ce [it]) [] σ' H' s' → ∃ x1, HotX.HotAt X.A x1 s'.heap := fun {σ' H' s'} I' => by
    obtain ⟨p, ⟨hh, v1, e1, c1⟩, hp⟩ := hc
    have P := I3.pin p (List.mem_append_left _ hp)
    have nS : p.1 ∉ frs X.stack := fun hm => (List.mem_cons.mp (I3.stkSub p.1 hm)).elim P.2.2.1 P.2.2.2.1
    have nI : p.1 ∉ [it] := fun hm => f3.2.2.2.2.2 p (List.mem_append_left _ hp) (List.mem_singleton.mp hm)
    exact ⟨p.1, hh, p.2, v1, I'.base.keep p.1 p.2 P.1 P.2.1 nS nI, e1, c1⟩
  have loop : codeAny (model X.prog X.w) X.A (.compLoop (.ListComp elt [⟨tg, iter, ifs, 0⟩] scope pos) 0 (.ref it) (.ref D) ce) (compPost (model X.prog X.w) X.A X.xe use Qf (.ref D) s3.heap.objs.size) s4 := by
    refine compLoop_any (fun n s' => ∃ i H', Inv (X.blk s3 H3 scope ce [it]) [] (wipe σ (own.map (·.2))) H' s' ∧ tn i s'.heap ∧ H' it = none ∧ W i n H') ?_ m0 ⟨0, H3, I4, st4, nit, w0⟩
    rintro n s5 ⟨i, H5, I5, st5, n5, w5⟩
    rcases turn i n H5 w5 with ⟨stop, qq⟩ | ⟨go, Nx, hNx, step⟩
    · obtain ⟨x1, hot⟩ := hotB I5
      refine thnF (T.done (X.blk s3 H3 scope ce [it]) rfl rfl rfl i [] s5 _ H5 (fun _ _ => False) x1 hot I5 (stat I5 n5) st5 stop) fun r s6 ⟨hr, I6⟩ => ?_
      subst hr
      have I7 : Inv X pins σ H5 s6 := I3.call' (ch := [it]) I6.os I6.base I6.hok I6.bare fun b hb => by
        rw [List.mem_singleton.mp hb]
        exact ⟨f3.2.2.2.1, f3.2.1, f3.2.2.2.2.1, f3.2.2.2.2.2⟩
      have nC : H5 s3.heap.objs.size = none := by
        rw [← cL]
        exact I6.free
      obtain ⟨m, hn, _⟩ := I6.loc
      have hn : s6.heap.Ns ce.locals m := hn
      rw [cL] at hn
      exact hRR D s3.heap.objs.size s6 m H5 I7 qq hn (I3.fpOk (Nat.le_refl _) nC)
    · refine thnF (T.item (X.blk s3 H3 scope ce [it]) rfl rfl rfl i [] s5 _ H5 (fun _ _ => False) I5 (stat I5 n5) st5 go) fun r s6 ⟨u, hr, h6⟩ => ?_
      subst hr
      refine thnF h6 fun _ s7 ⟨x, H7, I7, r7, y7, st7, n7⟩ => ?_
      have I7' := I7.pinned (fp := [it]) (fun b hb => by rw [List.mem_singleton.mp hb]; exact stat I7 n7) (fun b hb => by rw [List.mem_singleton.mp hb]; exact T.obj _ _ st7)
      refine thnF (pg.run _ s7 _ H7 x u _ I7' r7 (step x H7 y7)) fun _ s8 ⟨σ8, H8, I8, hw8, q8⟩ => ?_
      refine thnF (pt.run _ s8 σ8 H8 _ I8 q8) fun b s9 ⟨H9, I9, q9⟩ => ?_
      have fin : ∀ {s' : Shared} {H' : Hp}, Inv (X.blk s3 H3 scope ce [it]) ([] ++ pinsAt [it] s7.heap) σ8 H' s' → Nx H' → ∃ m, m < n ∧ ∃ i H', Inv (X.blk s3 H3 scope ce [it]) [] (wipe σ (own.map (·.2))) H' s' ∧ tn i s'.heap ∧ H' it = none ∧ W i m H' := fun {s' H'} I' nx => by
        obtain ⟨m', hm, w'⟩ := hNx H' nx
        have pin' : ∀ o, s7.heap.get? it = some o → s'.heap.get? it = some o ∧ H' it = none := fun o e =>
          let z := I'.pin (it, o) (List.mem_append_right _ (List.mem_append_right _ (mem_pinsAt (List.mem_singleton.mpr rfl) e)))
          ⟨z.1, z.2.1⟩
        have hl : (wipe σ (own.map (·.2))).length = σ8.length := by rw [← hw8, wipe_length]
        obtain ⟨o, eo, _⟩ := T.obj _ _ st7
        refine ⟨m', hm, i + 1, H', (I'.unpinned (pins := [])).weak hl (fun j v e => ?_), T.keep _ _ _ st7 fun o e => (pin' o e).1, (pin' o eo).2, w'⟩
        rw [← hw8] at e
        exact (wipe_some e).1
      cases b with
      | false =>
        simp only [Bool.false_eq_true, if_false] at q9 ⊢
        exact fin I9 q9
      | true =>
        simp only [if_true] at q9 ⊢
        refine thnF (pe.run _ s9 σ8 H9 _ I9 q9) fun z s10 ⟨yv, H10, I10, r10, acc, hD10, hz10, nx⟩ => ?_
        exact app_ok (X := X.blk s3 H3 scope ce [it]) I10 hD10 hz10 r10 fun s11 I11 => fin I11 nx
  exact codeAny_compStart_list loop (T.self X.A 0 _ _ _ st4 loop)
theorem pe_lcK {elt iter : Expr} {ifs : List Expr} {scope : Scope} {own : List (Str × Nat)} {pos : Pos} {wi : TI} {g : TG} {tt : TT} {te : TE} (hc : HotC X) (hN : X.N.Nodup) (hi : PIK X tg iter wi) (ok : BlkOk X.N X.env.scope scope own)
    (hg : ∀ (s : Shared) (H : Hp) (C : Addr) (cl : List (Str × Addr)) (fp : List Addr), HotIn X s H fp → PG (X.blk s H scope (compEnvC scope cl C X.env) fp) tg g) (ht : ∀ (s : Shared) (H : Hp) (C : Addr) (cl : List (Str × Addr)) (fp : List Addr), PinIn X s H fp → PTs (X.blk s H scope (compEnvC scope cl C X.env) fp) ifs tt)
    (he : ∀ (s : Shared) (H : Hp) (C : Addr) (cl : List (Str × Addr)) (fp : List Addr), PE (X.blk s H scope (compEnvC scope cl C X.env) fp) elt te) (hs : ∀ x, foldedSetIterable iter X.env x = pure x := by intro _; rfl) :
    PE X (.ListComp elt [⟨tg, iter, ifs, 0⟩] scope pos) (tLc wi g tt te (own.map (·.2))) := by
  refine ⟨fun pins s σ H Q I h => ?_⟩
  rw [eval_ListComp]
  refine lc_coreK hc hN I hi ok hg ht he hs h fun D C s' m H' I' q hn f => ⟨m, hn, fun h'' sb => ?_⟩
  obtain ⟨f0, f1, f2, f3, f4, f5⟩ := f
  exact ⟨.ref D, H', I'.turned (t' := s'.toks) (fun b o hb e => (sb.2 b hb).trans e) f0 f1 f3 f4 f5, rfl, q⟩
end
section
variable {X : Cx} {W : WX}
def DIK (X : Cx) (W : WX) (lo : Bool) (tg iter : Expr) (m : M (List D)) : Prop := PIK X tg iter (tG (Cx.g X) W m (rI (Cx.g X) lo))
theorem pik_weak {tg e : Expr} {t t' : TI} (h : PIK X tg e t) (w : ∀ σ H Q, t' σ H Q → t σ H Q) : PIK X tg e t' := ⟨fun pins s σ H Q I q => h.run pins s σ H Q I (w σ H Q q)⟩
theorem dik_rng1 {lb : Bool} {tg a : Expr} {p pos : Pos} {ma : M AV} (hg : Gl X "range") (hm : X.mg "range" = none) (ha : DO X W a ma) (hs : starEach [a] X.env = [(false, eval a X.env)] := by rfl) (hs2 : starEach [a] X.env = (false, eval a X.env) :: starEach [] X.env := by rfl) : DIK X W lb tg (.Call (.Name "range" p) [a] [] pos) (mOpL gRng1 [ma]) :=
  pik_weak (pik_rng1 hg hm (da_cons ha da_nil hs2) hs) fun σ H Q ⟨B, r, O, h⟩ => by
    refine tG.of (h.opsL.mono ?_)
    rintro vs H1 ⟨B1, xs, ds, sb, p, hg, q⟩
    unfold gRng1 at hg
    split at hg
    · rename_i j
      split at hg
      · rename_i hj
        cases hg
        cases p with
        | cons p1 p =>
          cases p
          cases dp_int p1
          obtain ⟨h1, h2⟩ := okR_of hj
          refine ⟨j, rfl, h1, h2, q _ ?_⟩
          have := serves_range (lb := lb) (K := X.K) (B0 := B1) (lo := 0) (hi := j)
          rwa [Int.sub_zero] at this
      · cases hg
    · cases hg
end
end DL
end

section
namespace DL
open PySem
/-- a new dict stands still -/
def mFzK (m : M RV) : M RV := m.bind fun rv => fun r => match rv with
  | .new (.dK kvs) => if oneI (kvs.map fun kv => (kD kv.1, kv.2)) then some (.ok (.val (.dict (kvs.map fun kv => (kD kv.1, kv.2)))), r) else none
  | _ => none
end DL
end

section
namespace DL
open PySem PySem.Spec PySem.Calls PyProof.Rows L2
theorem kvr_dk {K : PySem.W.Frag} {B : Hp} : ∀ {vs : List (Ky × V)} {kvs : List (Ky × D)}, KvR K B vs kvs → (kvs.map fun kv => (kD kv.1, kv.2)) = dkD (vs.map (·.1)) (kvs.map (·.2)) ∧ DqAll K B (vs.map (·.2)) (kvs.map (·.2)) ∧ vs.length = kvs.length
  | _, _, .nil => ⟨rfl, .nil, rfl⟩
  | _, _, .cons h t => by
    obtain ⟨a, b, c⟩ := kvr_dk t
    refine ⟨?_, .cons h.2 b, by simp [c]⟩
    rw [List.map_cons, a, ← h.1]
    rfl
section
variable {X : Cx} {W : WX}
/-- a new dict stands still -/
theorem de_fzK {e : Expr} {m : M RV} (h : DE X W e m) : DE X W e (mFzK m) :=
  pe_weak h fun σ H Q ⟨B, r, O, c, o, r', e, p⟩ => by
    unfold mFzK M.bind at e
    cases q : m r with
    | none => rw [q] at e; cases e
    | some z =>
      obtain ⟨o1, r1⟩ := z
      rw [q] at e
      refine ⟨B, r, O, c, o1, r1, q, ?_⟩
      cases o1 with
      | exc x => cases e; exact p
      | ok rv =>
        intro B1 H1 O1 v s1 c1 b1 x1
        simp only at e
        cases rv with
        | val d => cases e
        | new ct =>
          cases ct with
          | dK kvs =>
            simp only at e
            split at e
            case isFalse => cases e
            rename_i hm1
            cases e
            obtain ⟨l, F, e1, ⟨rfl, vs, g1, g2⟩, hF⟩ := x1
            subst e1
            obtain ⟨n1, n2, n3⟩ := hF l (by simp)
            have c2 := c1.still g1 n2 n3
            obtain ⟨k1, k2, k3⟩ := kvr_dk g2
            exact p _ _ O1 _ ⟨s1.sB.trans (same_new n2), s1.keep, s1.live, fun a q1 q2 q3 => by
              rw [upd_ne (show a ≠ l from fun e => q1 (by rw [e]; exact n1))]
              exact s1.nB a q1 q2 q3, s1.nO⟩ c2 b1 (.dii upd_same (dpa_same (same_new n2) k2) k1 hm1 rfl)
          | _ => cases e
end
end DL
end

section
namespace DL
open PySem
/-- an expression's end -/
def endP {α : Type} (X : Exn → Ro → Prop) (Q : α → Ro → Prop) : EO α → Ro → Prop
  | .ok a, r => Q a r
  | .exc x, r => X x r
@[simp, simp ↓] theorem endP_ok {α : Type} {X : Exn → Ro → Prop} {Q : α → Ro → Prop} {a : α} {r : Ro} : endP X Q (.ok a) r = Q a r := rfl
@[simp, simp ↓] theorem endP_exc {α : Type} {X : Exn → Ro → Prop} {Q : α → Ro → Prop} {x : Exn} {r : Ro} : endP X Q (.exc x) r = X x r := rfl
theorem endP.mono {α : Type} {X X' : Exn → Ro → Prop} {Q Q' : α → Ro → Prop} {o : EO α} {r : Ro} (h : endP X Q o r) (i : ∀ a r, Q a r → Q' a r) (j : ∀ x r, X x r → X' x r) : endP X' Q' o r := by
  cases o with
  | ok a => exact i _ _ h
  | exc x => exact j _ _ h
/-- a mark: what it speaks of is not looked into -/
inductive Tok {β : Type} (Q : β) : Type where
  | tok
/-- the option holds a value, of which Q holds -/
def optP {α : Type} (o : Option α) (Q : α → Prop) (t : Tok Q := .tok) : Prop := ∃ v, o = some v ∧ Q v
@[simp, simp ↓] theorem optP_some {α : Type} {v : α} {Q : α → Prop} : optP (some v) Q ↔ Q v := by simp [optP]
@[simp, simp ↓] theorem optP_none {α : Type} {Q : α → Prop} : optP none Q ↔ False := by simp [optP]
@[simp, simp ↓] theorem optP_map {α β : Type} {o : Option α} {f : α → β} {Q : β → Prop} : optP (o.map f) Q ↔ optP o fun a => Q (f a) := by cases o <;> simp
@[simp, simp ↓] theorem optP_bind {α β : Type} {o : Option α} {f : α → Option β} {Q : β → Prop} : optP (o.bind f) Q ↔ optP o fun a => optP (f a) Q := by cases o <;> simp
@[simp, simp ↓] theorem optP_ite {α : Type} {c : Prop} [Decidable c] {x : α} {Q : α → Prop} : optP (if c then some x else none) Q ↔ c ∧ Q x := by by_cases h : c <;> simp [h]
/-- the slots changed -/
def setP (r : Ro) (i : Nat) (x : Sl) (k : Ro → Prop) : Prop := k (r.set i x)
@[simp, simp ↓] theorem setP_0 {a x : Sl} {r : Ro} {k : Ro → Prop} : setP (a :: r) 0 x k ↔ k (x :: r) := Iff.rfl
@[simp, simp ↓] theorem setP_s {a x : Sl} {r : Ro} {n : Nat} {k : Ro → Prop} : setP (a :: r) (n + 1) x k ↔ setP r n x fun r' => k (a :: r') := Iff.rfl
/-- a fork -/
def ifP (x : Bool) (A B : Prop) (t : Tok A := .tok) (u : Tok B := .tok) : Prop := (x = true → A) ∧ (x = false → B)
@[simp, simp ↓] theorem ifP_true {A B : Prop} : ifP true A B ↔ A := by simp [ifP]
@[simp, simp ↓] theorem ifP_false {A B : Prop} : ifP false A B ↔ B := by simp [ifP]
@[simp, simp ↓] theorem ifP_not {x : Bool} {A B : Prop} : ifP (!x) A B ↔ ifP x B A := by cases x <;> simp
@[simp] theorem ifP_dec {c : Prop} [Decidable c] {A B : Prop} : ifP (decide c) A B ↔ (c → A) ∧ (¬ c → B) := by by_cases h : c <;> simp [h]
/-- the expression answers a value, of which Q holds, or raises what X says -/
def E {α : Type} (X : Exn → Ro → Prop) (m : M α) (r : Ro) (Q : α → Ro → Prop) : Prop := ∃ o r', m r = some (o, r') ∧ endP X Q o r'
/-- the statement ends so that Q holds -/
def W (s : S) (r : Ro) (Q : SO → Ro → Prop) : Prop := ∃ o r', s r = some (o, r') ∧ Q o r'
/-- the def answers so that Q holds -/
def Oks (f : Sem) (xs : List Rs) (Q : EO RV → List Rs → Prop) : Prop := ∃ o ys, f xs = some (o, ys) ∧ Q o ys
theorem E.mono {α : Type} {X : Exn → Ro → Prop} {m : M α} {r : Ro} {Q Q' : α → Ro → Prop} (h : E X m r Q) (i : ∀ a r, Q a r → Q' a r) : E X m r Q' := by
  obtain ⟨a, r', e, q⟩ := h
  exact ⟨a, r', e, q.mono i fun _ _ h => h⟩
theorem W.mono {s : S} {r : Ro} {Q Q' : SO → Ro → Prop} (h : W s r Q) (i : ∀ o r, Q o r → Q' o r) : W s r Q' := by
  obtain ⟨a, r', e, q⟩ := h
  exact ⟨a, r', e, i _ _ q⟩
theorem Oks.mono {f : Sem} {xs : List Rs} {Q Q' : EO RV → List Rs → Prop} (h : Oks f xs Q) (i : ∀ v ys, Q v ys → Q' v ys) : Oks f xs Q' := by
  obtain ⟨a, r', e, q⟩ := h
  exact ⟨a, r', e, i _ _ q⟩
theorem E_some {α : Type} {X : Exn → Ro → Prop} {m : M α} {r r' : Ro} {a : α} {Q : α → Ro → Prop} (h : m r = some (.ok a, r')) : E X m r Q ↔ Q a r' :=
  ⟨fun ⟨b, r2, e, q⟩ => (by rw [h] at e; cases e; exact q), fun q => ⟨.ok a, r', h, q⟩⟩
theorem E_exc {α : Type} {X : Exn → Ro → Prop} {m : M α} {r r' : Ro} {x : Exn} {Q : α → Ro → Prop} (h : m r = some (.exc x, r')) : E X m r Q ↔ X x r' :=
  ⟨fun ⟨b, r2, e, q⟩ => (by rw [h] at e; cases e; exact q), fun q => ⟨.exc x, r', h, q⟩⟩
theorem E_no {α : Type} {X : Exn → Ro → Prop} {m : M α} {r : Ro} {Q : α → Ro → Prop} (h : m r = none) : E X m r Q ↔ False :=
  ⟨fun ⟨b, r2, e, q⟩ => (by rw [h] at e; cases e), fun q => q.elim⟩
section
variable {α β : Type} {X : Exn → Ro → Prop} {r : Ro}
@[simp, simp ↓] theorem E_bind {m : M α} {f : α → M β} {Q : β → Ro → Prop} : E X (m.bind f) r Q ↔ E X m r fun a r' => E X (f a) r' Q := by
  cases hm : m r with
  | none => rw [E_no hm, E_no (by simp only [M.bind, hm])]
  | some p =>
    obtain ⟨o, r1⟩ := p
    cases o with
    | ok a =>
      rw [E_some hm]
      unfold E M.bind
      rw [hm]
    | exc x => rw [E_exc hm, E_exc (by simp only [M.bind, hm]; rfl)]
@[simp, simp ↓] theorem E_ret {a : α} {Q : α → Ro → Prop} : E X (M.ret a) r Q ↔ Q a r := E_some rfl
@[simp, simp ↓] theorem E_of {o : Option α} {Q : α → Ro → Prop} : E X (M.of o) r Q ↔ optP o fun a => Q a r := by
  cases o with
  | none => rw [E_no rfl]; simp
  | some a => rw [E_some (m := M.of (some a)) (r := r) (a := a) (r' := r) rfl]; simp
@[simp, simp ↓] theorem E_mC {d : D} {Q : RV → Ro → Prop} : E X (mC d) r Q ↔ Q (.val d) r := E_ret
@[simp, simp ↓] theorem E_mYes {Q : Bool → Ro → Prop} : E X mYes r Q ↔ Q true r := E_ret
def rdP (i : Nat) (r : Ro) (Q : RV → Ro → Prop) (x : Option Sl) (t : Tok Q := .tok) : Prop := match x with
  | some (.frz _ d) => Q (.val d) r
  | some (.own b (.lst ds)) => setP r i (.frz b (.list ds)) (Q (.val (.list ds)))
  | some (.own b (.ll rows)) => setP r i (.frz b (.list (rows.map .list))) (Q (.val (.list (rows.map .list))))
  | _ => False
@[simp, simp ↓] theorem rdP_frz {i : Nat} {b : Bool} {d : D} {Q : RV → Ro → Prop} : rdP i r Q (some (.frz b d)) = Q (.val d) r := rfl
@[simp, simp ↓] theorem rdP_lst {i : Nat} {b : Bool} {ds : List D} {Q : RV → Ro → Prop} : rdP i r Q (some (.own b (.lst ds))) = setP r i (.frz b (.list ds)) (Q (.val (.list ds))) := rfl
@[simp, simp ↓] theorem rdP_ll {i : Nat} {b : Bool} {rows : List (List D)} {Q : RV → Ro → Prop} : rdP i r Q (some (.own b (.ll rows))) = setP r i (.frz b (.list (rows.map .list))) (Q (.val (.list (rows.map .list)))) := rfl
@[simp, simp ↓] theorem E_mRd {i : Nat} {Q : RV → Ro → Prop} : E X (mRd i) r Q ↔ rdP i r Q (r[i]?) := by
  cases h : r[i]? with
  | none => rw [E_no (by simp only [mRd, h])]; simp [rdP]
  | some x => cases x with
    | non => rw [E_no (by simp only [mRd, h])]; simp [rdP]
    | frz b d => rw [E_some (by simp only [mRd, h]; rfl)]; simp [rdP]
    | own b c => cases c with
      | lst ds => rw [E_some (by simp only [mRd, h]; rfl)]; simp [rdP, setP]
      | ll ds => rw [E_some (by simp only [mRd, h]; rfl)]; simp [rdP, setP]
      | dK ds => rw [E_no (by simp only [mRd, h])]; simp [rdP]
      | dT ds => rw [E_no (by simp only [mRd, h])]; simp [rdP]
      | dl ds => rw [E_no (by simp only [mRd, h])]; simp [rdP]
      | dp ds => rw [E_no (by simp only [mRd, h])]; simp [rdP]
      | tl ds => rw [E_no (by simp only [mRd, h])]; simp [rdP]
      | obj _ _ => rw [E_no (by simp only [mRd, h])]; simp [rdP]
      | exn _ _ => rw [E_no (by simp only [mRd, h])]; simp [rdP]
      | tab _ _ => rw [E_no (by simp only [mRd, h])]; simp [rdP]
    | al j k => rw [E_no (by simp only [mRd, h])]; simp [rdP]
@[simp] theorem look_val {d : D} : look r (.val d) = some (.fz d) := rfl
@[simp] theorem look2_val {d : D} : look2 r (.val d) = some (.fz d) := rfl
def lookSl : Option Sl → Option Rs
  | some (.frz _ d) => some (.fz d)
  | some (.own _ c) => some (.ow c)
  | _ => none
def lookAl (r : Ro) (k : Nat) : Option Sl → Option Rs
  | some (.own _ (.ll rows)) => rows[k]?.map fun ds => .ow (.lst ds)
  | _ => none
def lookSl2 (r : Ro) : Option Sl → Option Rs
  | some (.frz _ d) => some (.fz d)
  | some (.own _ c) => some (.ow c)
  | some (.al j k) => lookAl r k r[j]?
  | _ => none
@[simp] theorem lookSl_frz {b : Bool} {d : D} : lookSl (some (.frz b d)) = some (.fz d) := rfl
@[simp] theorem lookSl_own {b : Bool} {c : Ct} : lookSl (some (.own b c)) = some (.ow c) := rfl
@[simp] theorem lookSl2_frz {b : Bool} {d : D} : lookSl2 r (some (.frz b d)) = some (.fz d) := rfl
@[simp] theorem lookSl2_own {b : Bool} {c : Ct} : lookSl2 r (some (.own b c)) = some (.ow c) := rfl
@[simp] theorem lookSl2_al {j k : Nat} : lookSl2 r (some (.al j k)) = lookAl r k r[j]? := rfl
@[simp] theorem lookAl_ll {b : Bool} {k : Nat} {rows : List (List D)} : lookAl r k (some (.own b (.ll rows))) = rows[k]?.map fun ds => .ow (.lst ds) := rfl
@[simp] theorem look_slot {i : Nat} : look r (.slot i) = lookSl r[i]? := by
  unfold look lookSl
  cases h : r[i]? with
  | none => simp [h]
  | some x => cases x <;> simp [h]
@[simp] theorem look2_slot {i : Nat} : look2 r (.slot i) = lookSl2 r r[i]? := by
  unfold look2 lookSl2
  cases h : r[i]? with
  | none => simp [h]
  | some x =>
    cases x with
    | al j k =>
      simp only [h]
      unfold lookAl
      cases h2 : r[j]? with
      | none => simp
      | some y => cases y with
        | own b c => cases c <;> simp
        | _ => simp
    | _ => simp [h]
@[simp, simp ↓] theorem E_oS {i : Nat} {Q : AV → Ro → Prop} : E X (oS i) r Q ↔ optP (lookSl2 r r[i]?) fun _ => Q (.slot i) r := by
  cases h : lookSl2 r r[i]? with
  | none => rw [E_no (by simp only [oS, look2_slot, h])]; simp
  | some x => rw [E_some (by simp only [oS, look2_slot, h]; rfl)]; simp
@[simp] theorem data_val {d : D} : (RV.val d).data = some d := rfl
@[simp] theorem data_lst {ds : List D} : (RV.new (.lst ds)).data = some (.list ds) := rfl
@[simp] theorem rdata_fz {d : D} : (Rs.fz d).data = some d := rfl
@[simp] theorem rdata_lst {ds : List D} : (Rs.ow (.lst ds)).data = some (.list ds) := rfl
@[simp, simp ↓] theorem E_oE {m : M RV} {Q : AV → Ro → Prop} : E X (oE m) r Q ↔ E X m r fun v r' => optP v.data fun d => Q (.val d) r' := by
  unfold oE
  rw [E_bind]
  constructor
  · intro h
    refine h.mono fun v r' h => ?_
    rw [E_of] at h
    obtain ⟨a, e, q⟩ := h
    cases hv : v.data with
    | none => rw [hv] at e; cases e
    | some d => rw [hv] at e; cases e; exact ⟨d, rfl, q⟩
  · intro h
    refine h.mono fun v r' h => ?_
    obtain ⟨d, e, q⟩ := h
    rw [E_of, e]
    exact ⟨_, rfl, q⟩
@[simp, simp ↓] theorem E_oL_nil {Q : List AV → Ro → Prop} : E X (oL []) r Q ↔ Q [] r := E_ret
@[simp, simp ↓] theorem E_oL_cons {m : M AV} {ms : List (M AV)} {Q : List AV → Ro → Prop} : E X (oL (m :: ms)) r Q ↔ E X m r fun a r1 => E X (oL ms) r1 fun as r2 => Q (a :: as) r2 := by
  show E X (m.bind fun a => (oL ms).bind fun as => M.ret (a :: as)) r Q ↔ _
  simp only [E_bind, E_ret]
@[simp] theorem looks2_nil : looks2 r [] = some [] := rfl
@[simp] theorem looks_nil : looks r [] = some [] := rfl
def consO : Option Rs → Option (List Rs) → Option (List Rs)
  | some x, some xs => some (x :: xs)
  | _, _ => none
@[simp] theorem consO_some {x : Rs} {xs : List Rs} : consO (some x) (some xs) = some (x :: xs) := rfl
@[simp] theorem consO_none {xs : Option (List Rs)} : consO none xs = none := by cases xs <;> rfl
@[simp] theorem looks2_cons {a : AV} {as : List AV} : looks2 r (a :: as) = consO (look2 r a) (looks2 r as) := by
  show (match look2 r a, looks2 r as with | some x, some xs => some (x :: xs) | _, _ => none) = _
  cases look2 r a <;> cases looks2 r as <;> rfl
@[simp] theorem looks_cons {a : AV} {as : List AV} : looks r (a :: as) = consO (look r a) (looks r as) := by
  show (match look r a, looks r as with | some x, some xs => some (x :: xs) | _, _ => none) = _
  cases look r a <;> cases looks r as <;> rfl
@[simp, simp ↓] theorem E_mFin {g : List Rs → Option RV} {as : List AV} {Q : RV → Ro → Prop} : E X (mFin g as) r Q ↔ optP (looks2 r as) fun xs => optP (g xs) fun v => Q v r := by
  cases h : looks2 r as with
  | none => rw [E_no (by simp only [mFin, h])]; simp
  | some xs => cases h2 : g xs with
    | none => rw [E_no (by simp [mFin, h, h2])]; simp [h2]
    | some v => rw [E_some (by simp only [mFin, h, h2]; rfl)]; simp [h2]
@[simp, simp ↓] theorem E_mOp {g : List Rs → Option RV} {os : List (M AV)} {Q : RV → Ro → Prop} : E X (mOp g os) r Q ↔ E X (oL os) r fun as r' => optP (looks2 r' as) fun xs => optP (g xs) fun v => Q v r' := by
  unfold mOp
  simp only [E_bind, E_mFin]
@[simp, simp ↓] theorem E_mOpL {g : List Rs → Option (List D)} {os : List (M AV)} {Q : List D → Ro → Prop} : E X (mOpL g os) r Q ↔ E X (oL os) r fun as r' => optP (looks2 r' as) fun xs => optP (g xs) fun v => Q v r' := by
  refine Iff.trans (E_bind (m := oL os)) ?_
  constructor
  · intro h
    refine h.mono fun as r' h => ?_
    obtain ⟨v, r2, e, q⟩ := h
    cases h2 : looks2 r' as with
    | none => simp [h2] at e
    | some xs => cases h3 : g xs with
      | none => simp [h2, h3] at e
      | some v => simp [h2, h3] at e; obtain ⟨rfl, rfl⟩ := e; exact ⟨xs, rfl, v, h3, q⟩
  · intro h
    refine h.mono fun as r' h => ?_
    obtain ⟨xs, e1, v, e2, q⟩ := h
    exact ⟨.ok v, r', by simp only [e1, e2]; rfl, q⟩
@[simp, simp ↓] theorem E_mTst {m : M RV} {Q : Bool → Ro → Prop} : E X (mTst m) r Q ↔ E X m r fun v r' => optP (boolV v) fun b => Q b r' := by
  unfold mTst
  simp only [E_bind, E_of]
@[simp] theorem boolV_b {b : Bool} : boolV (.val (.bool b)) = some b := rfl
@[simp, simp ↓] theorem E_mNot {m : M Bool} {Q : Bool → Ro → Prop} : E X (mNot m) r Q ↔ E X m r fun b r' => Q (!b) r' := by
  unfold mNot
  simp only [E_bind, E_ret]
@[simp, simp ↓] theorem E_mAnd {a b : M Bool} {Q : Bool → Ro → Prop} : E X (mAnd a b) r Q ↔ E X a r fun x r' => ifP x (E X b r' Q) (Q false r') := by
  unfold mAnd
  rw [E_bind]
  constructor <;> exact fun h => h.mono fun x r' h => by cases x <;> simpa using h
@[simp, simp ↓] theorem E_mOr {a b : M Bool} {Q : Bool → Ro → Prop} : E X (mOr a b) r Q ↔ E X a r fun x r' => ifP x (Q true r') (E X b r' Q) := by
  unfold mOr
  rw [E_bind]
  constructor <;> exact fun h => h.mono fun x r' h => by cases x <;> simpa using h
@[simp, simp ↓] theorem E_mFz {m : M RV} {Q : D → Ro → Prop} : E X (mFz m) r Q ↔ E X m r fun v r' => optP v.data fun d => Q d r' := by
  unfold mFz
  simp only [E_bind, E_of]
def andP (X : Exn → Ro → Prop) (b : M RV) (r : Ro) (Q : RV → Ro → Prop) : RV → Prop
  | .val (.bool true) => E X b r Q
  | .val (.bool false) => Q (.val (.bool false)) r
  | _ => False
def orP (X : Exn → Ro → Prop) (b : M RV) (r : Ro) (Q : RV → Ro → Prop) : RV → Prop
  | .val (.bool false) => E X b r Q
  | .val (.bool true) => Q (.val (.bool true)) r
  | _ => False
@[simp, simp ↓] theorem andP_b {b : M RV} {x : Bool} {Q : RV → Ro → Prop} : andP X b r Q (.val (.bool x)) ↔ ifP x (E X b r Q) (Q (.val (.bool false)) r) := by cases x <;> simp [andP]
@[simp, simp ↓] theorem orP_b {b : M RV} {x : Bool} {Q : RV → Ro → Prop} : orP X b r Q (.val (.bool x)) ↔ ifP x (Q (.val (.bool true)) r) (E X b r Q) := by cases x <;> simp [orP]
theorem E_none {Q : α → Ro → Prop} : ¬ E X (M.of none) r Q := fun h => (E_no rfl).mp h
@[simp, simp ↓] theorem E_mAndV {a b : M RV} {Q : RV → Ro → Prop} : E X (mAndV a b) r Q ↔ E X a r fun v r' => andP X b r' Q v := by
  unfold mAndV
  rw [E_bind]
  constructor
  · exact fun h => h.mono fun v r' h => by
      cases v with
      | new c => exact (E_none h).elim
      | val d => cases d with
        | bool x => cases x with
          | false => exact E_ret.mp h
          | true => exact h
        | _ => exact (E_none h).elim
  · exact fun h => h.mono fun v r' h => by
      cases v with
      | new c => exact h.elim
      | val d => cases d with
        | bool x => cases x with
          | false => exact E_ret.mpr h
          | true => exact h
        | _ => exact h.elim
@[simp, simp ↓] theorem E_mOrV {a b : M RV} {Q : RV → Ro → Prop} : E X (mOrV a b) r Q ↔ E X a r fun v r' => orP X b r' Q v := by
  unfold mOrV
  rw [E_bind]
  constructor
  · exact fun h => h.mono fun v r' h => by
      cases v with
      | new c => exact (E_none h).elim
      | val d => cases d with
        | bool x => cases x with
          | false => exact h
          | true => exact E_ret.mp h
        | _ => exact (E_none h).elim
  · exact fun h => h.mono fun v r' h => by
      cases v with
      | new c => exact h.elim
      | val d => cases d with
        | bool x => cases x with
          | false => exact h
          | true => exact E_ret.mpr h
        | _ => exact h.elim
def notP (r : Ro) (Q : RV → Ro → Prop) : RV → Prop
  | .val (.bool b) => Q (.val (.bool !b)) r
  | _ => False
@[simp, simp ↓] theorem notP_b {x : Bool} {Q : RV → Ro → Prop} : notP r Q (.val (.bool x)) = Q (.val (.bool !x)) r := rfl
@[simp, simp ↓] theorem E_mNotV {a : M RV} {Q : RV → Ro → Prop} : E X (mNotV a) r Q ↔ E X a r fun v r' => notP r' Q v := by
  unfold mNotV
  rw [E_bind]
  constructor
  · exact fun h => h.mono fun v r' h => by
      cases v with
      | new c => exact (E_none h).elim
      | val d => cases d with
        | bool x => exact E_ret.mp h
        | _ => exact (E_none h).elim
  · exact fun h => h.mono fun v r' h => by
      cases v with
      | new c => exact h.elim
      | val d => cases d with
        | bool x => exact E_ret.mpr h
        | _ => exact h.elim
@[simp, simp ↓] theorem E_mRow {m : M RV} {Q : List D → Ro → Prop} : E X (mRow m) r Q ↔ E X m r fun v r' => optP v.data fun d => optP (rowOf d) fun xs => Q xs r' := by
  unfold mRow
  simp only [E_bind, E_of, E_mFz]
@[simp] theorem rowOf_l {xs : List D} : rowOf (.list xs) = some xs := rfl
@[simp] theorem rowOf_t {xs : List D} : rowOf (.tuple xs) = some xs := rfl
/-- a call -/
def backP (r : Ro) (as : List AV) (xs ys : List Rs) (k : Ro → Prop) : Prop := k (putBack r as xs ys)
@[simp, simp ↓] theorem backP_nil {r : Ro} {k : Ro → Prop} : backP r [] [] [] k ↔ k r := Iff.rfl
@[simp, simp ↓] theorem backP_val {d : D} {as : List AV} {x y : Rs} {xs ys : List Rs} {k : Ro → Prop} : backP r (.val d :: as) (x :: xs) (y :: ys) k ↔ backP r as xs ys k := by
  cases x <;> exact Iff.rfl
@[simp, simp ↓] theorem backP_fz {i : Nat} {d : D} {as : List AV} {y : Rs} {xs ys : List Rs} {k : Ro → Prop} : backP r (.slot i :: as) (.fz d :: xs) (y :: ys) k ↔ backP r as xs ys k := Iff.rfl
def put1P (i : Nat) (y : Rs) (r : Ro) (k : Ro → Prop) (x : Option Sl) (t : Tok k := .tok) : Prop := match x with
  | some (.own b _) => setP r i (backSl b y) k
  | _ => k r
@[simp, simp ↓] theorem put1P_own {i : Nat} {y : Rs} {b : Bool} {c : Ct} {k : Ro → Prop} : put1P i y r k (some (.own b c)) ↔ setP r i (backSl b y) k := Iff.rfl
@[simp, simp ↓] theorem backP_ow {i : Nat} {c : Ct} {as : List AV} {y : Rs} {xs ys : List Rs} {k : Ro → Prop} : backP r (.slot i :: as) (.ow c :: xs) (y :: ys) k ↔ put1P i y r (fun r' => backP r' as xs ys k) r[i]? := by
  show k (putBack (put1 r i y) as xs ys) ↔ _
  unfold put1 put1P
  cases r[i]? with
  | none => exact Iff.rfl
  | some x => cases x <;> exact Iff.rfl
def callP (o : Option (EO RV × List Rs)) (n : Nat) (k : EO RV → List Rs → Prop) (t : Tok k := .tok) : Prop := ∃ v ys, o = some (v, ys) ∧ ys.length = n ∧ k v ys
@[simp, simp ↓] theorem callP_ok {v : EO RV} {ys : List Rs} {n : Nat} {k : EO RV → List Rs → Prop} : callP (some (v, ys)) n k ↔ ys.length = n ∧ k v ys := ⟨fun ⟨a, b, e, q⟩ => (by cases e; exact q), fun q => ⟨v, ys, rfl, q⟩⟩
@[simp, simp ↓] theorem E_mCall {f : Sem} {ms : List (M AV)} {Q : RV → Ro → Prop} : E X (mCall f ms) r Q ↔ E X (oL ms) r fun as r' => optP (looks r' as) fun xs => (ownIx as xs).Nodup ∧ (ownIx as xs).all (noAl r') = true ∧ callP (f xs) xs.length fun o ys => backP r' as xs ys fun r' => endP X Q o r' := by
  refine Iff.trans (E_bind (m := oL ms)) ?_
  constructor
  · intro h
    refine h.mono fun as r' h => ?_
    obtain ⟨v, r2, e, q⟩ := h
    cases h2 : looks r' as with
    | none => simp [h2] at e
    | some xs =>
      simp only [h2] at e
      split at e
      · rename_i hc
        cases h3 : f xs with
        | none => simp [h3] at e
        | some p =>
          obtain ⟨o, ys⟩ := p
          simp only [h3] at e
          split at e
          · cases e
            exact ⟨xs, rfl, hc.1, hc.2, _, ys, h3, by assumption, q⟩
          · cases e
      · cases e
  · intro h
    refine h.mono fun as r' h => ?_
    obtain ⟨xs, e1, e2, e3, v, ys, e4, e5, q⟩ := h
    exact ⟨v, _, by simp only [e1, e4]; rw [if_pos ⟨e2, e3⟩, if_pos e5], q⟩
end
end DL
end

section
namespace DL
open PySem
theorem W_some {s : S} {r r' : Ro} {o : SO} {Q : SO → Ro → Prop} (h : s r = some (o, r')) : W s r Q ↔ Q o r' :=
  ⟨fun ⟨b, r2, e, q⟩ => (by rw [h] at e; cases e; exact q), fun q => ⟨o, r', h, q⟩⟩
theorem W_no {s : S} {r : Ro} {Q : SO → Ro → Prop} (h : s r = none) : W s r Q ↔ False :=
  ⟨fun ⟨b, r2, e, q⟩ => (by rw [h] at e; cases e), fun q => q.elim⟩
def thenP (b : S) (Q : SO → Ro → Prop) : SO → Ro → Prop
  | .nx, r => W b r Q
  | o, r => Q o r
section
variable {r : Ro} {Q : SO → Ro → Prop}
@[simp, simp ↓] theorem thenP_nx {b : S} : thenP b Q .nx r = W b r Q := rfl
@[simp, simp ↓] theorem thenP_ret {b : S} {v : RV} : thenP b Q (.ret v) r = Q (.ret v) r := rfl
@[simp, simp ↓] theorem thenP_rets {b : S} {i : Nat} : thenP b Q (.rets i) r = Q (.rets i) r := rfl
@[simp, simp ↓] theorem thenP_exc {b : S} {x : Exn} : thenP b Q (.exc x) r = Q (.exc x) r := rfl
@[simp, simp ↓] theorem thenP_brk {b : S} : thenP b Q .brk r = Q .brk r := rfl
@[simp, simp ↓] theorem thenP_cnt {b : S} : thenP b Q .cnt r = Q .cnt r := rfl
@[simp, simp ↓] theorem W_nx : W sNx r Q ↔ Q .nx r := W_some rfl
@[simp, simp ↓] theorem W_seq {a b : S} : W (sSeq a b) r Q ↔ W a r (thenP b Q) := by
  constructor
  · rintro ⟨o, r', e, q⟩
    unfold sSeq at e
    cases h : a r with
    | none => simp [h] at e
    | some p =>
      obtain ⟨o1, r1⟩ := p
      rw [h] at e
      refine ⟨o1, r1, h, ?_⟩
      cases o1 with
      | nx => exact ⟨o, r', e, q⟩
      | _ => simp only [Option.some.injEq, Prod.mk.injEq] at e; obtain ⟨rfl, rfl⟩ := e; exact q
  · rintro ⟨o1, r1, h, q⟩
    cases o1 with
    | nx =>
      obtain ⟨o, r', e, q⟩ := q
      exact ⟨o, r', by unfold sSeq; rw [h]; exact e, q⟩
    | _ => exact ⟨_, r1, by unfold sSeq; rw [h], q⟩
@[simp, simp ↓] theorem W_ex {α : Type} {m : M α} {k : α → S} : W (sEx m k) r Q ↔ E (fun x => Q (.exc x)) m r fun a r' => W (k a) r' Q := by
  cases hm : m r with
  | none => rw [E_no hm, W_no (by simp only [sEx, hm])]
  | some p =>
    obtain ⟨o, r1⟩ := p
    cases o with
    | ok a =>
      rw [E_some hm]
      unfold W sEx
      rw [hm]
    | exc x => rw [E_exc hm, W_some (by simp only [sEx, hm]; rfl)]
@[simp, simp ↓] theorem W_ret {m : M RV} : W (sRet m) r Q ↔ E (fun x => Q (.exc x)) m r fun v r' => Q (.ret v) r' := by
  refine Iff.trans (W_ex (m := m)) ?_
  constructor <;> exact fun h => h.mono fun v r' q => by
    first | exact (W_some rfl).mp q | exact (W_some rfl).mpr q
@[simp, simp ↓] theorem W_if {t : M Bool} {a b : S} : W (sIf t a b) r Q ↔ E (fun x => Q (.exc x)) t r fun x r' => ifP x (W a r' Q) (W b r' Q) := by
  refine Iff.trans (W_ex (m := t)) ?_
  constructor <;> exact fun h => h.mono fun v r' q => by cases v <;> simpa using q
@[simp, simp ↓] theorem W_drop {m : M RV} : W (sDrop m) r Q ↔ E (fun x => Q (.exc x)) m r fun _ r' => Q .nx r' := by
  refine Iff.trans (W_ex (m := m)) ?_
  simp only [W_nx]
def putP (i : Nat) (v : RV) (r : Ro) (Q : SO → Ro → Prop) (x : Option Sl) (t : Tok Q := .tok) : Prop := match x with
  | none => False
  | some x => putSl.pinnedB x = false ∧ match v with
    | .val d => setP r i (.frz false d) (Q .nx)
    | .new (.ll rows) => noAl r i = true ∧ setP r i (.own false (.ll rows)) (Q .nx)
    | .new c => setP r i (.own false c) (Q .nx)
@[simp, simp ↓] theorem putP_val {i : Nat} {d : D} {x : Sl} : putP i (.val d) r Q (some x) ↔ putSl.pinnedB x = false ∧ setP r i (.frz false d) (Q .nx) := Iff.rfl
@[simp, simp ↓] theorem putP_ll {i : Nat} {rows : List (List D)} {x : Sl} : putP i (.new (.ll rows)) r Q (some x) ↔ putSl.pinnedB x = false ∧ noAl r i = true ∧ setP r i (.own false (.ll rows)) (Q .nx) := Iff.rfl
@[simp, simp ↓] theorem putP_lst {i : Nat} {ds : List D} {x : Sl} : putP i (.new (.lst ds)) r Q (some x) ↔ putSl.pinnedB x = false ∧ setP r i (.own false (.lst ds)) (Q .nx) := Iff.rfl
@[simp, simp ↓] theorem putP_dK {i : Nat} {ds : List (Ky × D)} {x : Sl} : putP i (.new (.dK ds)) r Q (some x) ↔ putSl.pinnedB x = false ∧ setP r i (.own false (.dK ds)) (Q .nx) := Iff.rfl
@[simp] theorem pinned_frz {b : Bool} {d : D} : putSl.pinnedB (.frz b d) = b := rfl
@[simp] theorem pinned_own {b : Bool} {c : Ct} : putSl.pinnedB (.own b c) = b := rfl
@[simp] theorem pinned_non : putSl.pinnedB .non = false := rfl
@[simp] theorem pinned_al {j k : Nat} : putSl.pinnedB (.al j k) = false := rfl
@[simp, simp ↓] theorem W_put {i : Nat} {v : RV} : W (putSl i v) r Q ↔ putP i v r Q r[i]? := by
  cases h : r[i]? with
  | none => rw [W_no (by simp [putSl, h])]; exact Iff.rfl
  | some x =>
    cases hp : putSl.pinnedB x with
    | true => rw [W_no (by simp [putSl, h, hp])]; simp [putP, hp, setP]
    | false =>
      cases v with
      | val d => rw [W_some (by simp [putSl, h, hp]; exact ⟨rfl, rfl⟩)]; simp [putP, hp, setP]
      | new c => cases c with
        | ll rows =>
          cases hn : noAl r i with
          | true => rw [W_some (by simp [putSl, h, hp, hn]; exact ⟨rfl, rfl⟩)]; simp [putP, hp, hn, setP]
          | false => rw [W_no (by simp [putSl, h, hp, hn])]; simp [putP, hp, hn, setP]
        | _ => rw [W_some (by simp [putSl, h, hp]; exact ⟨rfl, rfl⟩)]; simp [putP, hp, setP]
@[simp, simp ↓] theorem W_setN {i : Nat} {d : D} : W (setN i d) r Q ↔ putP i (.val d) r Q r[i]? := W_put
@[simp, simp ↓] theorem W_set {i : Nat} {m : M RV} : W (sSet i m) r Q ↔ E (fun x => Q (.exc x)) m r fun v r' => putP i v r' Q r'[i]? := by
  refine Iff.trans (W_ex (m := m)) ?_
  simp only [W_put]
@[simp, simp ↓] theorem W_sets_nil : W (sets [] []) r Q ↔ Q .nx r := W_nx
@[simp, simp ↓] theorem W_sets_cons {f : D → S} {fs : List (D → S)} {d : D} {ds : List D} : W (sets (f :: fs) (d :: ds)) r Q ↔ W (f d) r (thenP (sets fs ds) Q) := W_seq
@[simp, simp ↓] theorem W_setT {fs : List (D → S)} {ds : List D} : W (setT fs (.tuple ds)) r Q ↔ W (sets fs ds) r Q := Iff.rfl
@[simp, simp ↓] theorem W_par {i j : Nat} {m n : M RV} : W (sPar i j m n) r Q ↔ E (fun x => Q (.exc x)) m r fun v r1 => optP v.data fun d => E (fun x => Q (.exc x)) n r1 fun u r2 => optP u.data fun e => putP i (.val d) r2 (thenP (putSl j (.val e)) Q) r2[i]? := by
  unfold sPar
  simp only [W_ex, E_mFz, W_seq, W_put]
def loopP (I : Ro → Prop) (Q : SO → Ro → Prop) : SO → Ro → Prop
  | .nx, r => I r
  | .cnt, r => I r
  | .brk, r => Q .nx r
  | o, r => Q o r
@[simp, simp ↓] theorem loopP_nx {I : Ro → Prop} : loopP I Q .nx r = I r := rfl
@[simp, simp ↓] theorem loopP_cnt {I : Ro → Prop} : loopP I Q .cnt r = I r := rfl
@[simp, simp ↓] theorem loopP_brk {I : Ro → Prop} : loopP I Q .brk r = Q .nx r := rfl
@[simp, simp ↓] theorem loopP_rets {I : Ro → Prop} {i : Nat} : loopP I Q (.rets i) r = Q (.rets i) r := rfl
@[simp, simp ↓] theorem loopP_exc {I : Ro → Prop} {x : Exn} : loopP I Q (.exc x) r = Q (.exc x) r := rfl
@[simp, simp ↓] theorem loopP_ret {I : Ro → Prop} {v : RV} : loopP I Q (.ret v) r = Q (.ret v) r := rfl
def nxP (body : S) (P : SO → Ro → Prop) : SO → Ro → Prop
  | .nx, r => W body r P
  | _, _ => False
@[simp, simp ↓] theorem nxP_nx {b : S} {P : SO → Ro → Prop} : nxP b P .nx r = W b r P := rfl
theorem forS_nil {set : D → S} {body : S} : Q .nx r → W (forS set body []) r Q := fun h => W_nx.mpr h
theorem forS_cons {set : D → S} {body : S} {d : D} {ds : List D} (h : W (set d) r (nxP body (loopP (fun r => W (forS set body ds) r Q) Q))) : W (forS set body (d :: ds)) r Q := by
  obtain ⟨o, r1, e1, h⟩ := h
  cases o with
  | nx =>
    obtain ⟨o, r2, e2, h⟩ := h
    cases o with
    | nx =>
      obtain ⟨o, r3, e3, q⟩ := h
      exact ⟨o, r3, by unfold forS; simp only [e1, e2]; exact e3, q⟩
    | cnt =>
      obtain ⟨o, r3, e3, q⟩ := h
      exact ⟨o, r3, by unfold forS; simp only [e1, e2]; exact e3, q⟩
    | brk => exact ⟨.nx, r2, by unfold forS; simp only [e1, e2], h⟩
    | ret v => exact ⟨.ret v, r2, by unfold forS; simp only [e1, e2], h⟩
    | rets i => exact ⟨.rets i, r2, by unfold forS; simp only [e1, e2], h⟩
    | exc x => exact ⟨.exc x, r2, by unfold forS; simp only [e1, e2], h⟩
  | _ => exact h.elim
/-- a for loop by an invariant: I k before the k-th item -/
theorem forS_inv {set : D → S} {body : S} (I : Nat → Ro → Prop) : ∀ (ds : List D) (n : Nat) (r : Ro), I n r →
    (∀ k d r, ds[k]? = some d → I (n + k) r → W (set d) r (nxP body (loopP (I (n + k + 1)) Q))) → (∀ r, I (n + ds.length) r → Q .nx r) → W (forS set body ds) r Q := by
  intro ds
  induction ds with
  | nil => intro n r h _ hq; exact forS_nil (hq _ h)
  | cons d ds ih =>
    intro n r h step hq
    refine forS_cons ((step 0 d r rfl h).mono fun o r1 h1 => ?_)
    cases o with
    | nx =>
      refine W.mono h1 fun o r2 h2 => ?_
      have go : I (n + 1) r2 → W (forS set body ds) r2 Q := fun h2 => ih (n + 1) r2 h2 (fun k d r e h => by
        have := step (k + 1) d r e (by rw [show n + (k + 1) = n + 1 + k by omega]; exact h)
        rw [show n + (k + 1) + 1 = n + 1 + k + 1 by omega] at this
        exact this) fun r h => hq r (by rw [show n + (d :: ds).length = n + 1 + ds.length by simp; omega]; exact h)
      cases o with
      | nx => exact go h2
      | cnt => exact go h2
      | brk => exact h2
      | ret v => exact h2
      | rets i => exact h2
      | exc x => exact h2
    | _ => exact h1.elim
@[simp, simp ↓] theorem W_for {mi : M (List D)} {set : D → S} {body : S} : W (sFor mi set body) r Q ↔ E (fun x => Q (.exc x)) mi r fun ds r' => W (forS set body ds) r' Q := W_ex
/-- range's items -/
theorem rng0_get {n : Int} {k : Nat} {d : D} (h : (rng 0 n)[k]? = some d) : d = .int k ∧ (k : Int) < n := by
  unfold rng at h
  rw [List.getElem?_map] at h
  cases h2 : (List.range (n - 0).toNat)[k]? with
  | none => rw [h2] at h; cases h
  | some j =>
    rw [h2] at h
    obtain ⟨h3, h4⟩ := List.getElem?_eq_some_iff.mp h2
    simp at h3 h4
    subst h4
    cases h
    exact ⟨by simp, by omega⟩
theorem rng0_len {n : Int} : (rng 0 n).length = n.toNat := by simp [rng]
def updK (r : Ro) (i : Nat) (ds : List D) (k : Ro → Prop) : Prop := k (updSl r i ds)
def updP (i : Nat) (ds : List D) (r : Ro) (K : Ro → Prop) (x : Option Sl) (t : Tok K := .tok) : Prop := match x with
  | some (.own b _) => setP r i (.own b (.lst ds)) K
  | some (.al j k) => match r[j]? with
    | some (.own b (.ll rows)) => setP r j (.own b (.ll (rows.set k ds))) K
    | _ => K r
  | _ => K r
def updAl (j k : Nat) (ds : List D) (r : Ro) (K : Ro → Prop) (x : Option Sl) (t : Tok K := .tok) : Prop := match x with
  | some (.own b (.ll rows)) => setP r j (.own b (.ll (rows.set k ds))) K
  | _ => K r
@[simp, simp ↓] theorem updP_own {i : Nat} {ds : List D} {b : Bool} {c : Ct} {K : Ro → Prop} : updP i ds r K (some (.own b c)) ↔ setP r i (.own b (.lst ds)) K := Iff.rfl
@[simp, simp ↓] theorem updAl_ll {j k : Nat} {ds : List D} {b : Bool} {rows : List (List D)} {K : Ro → Prop} : updAl j k ds r K (some (.own b (.ll rows))) ↔ setP r j (.own b (.ll (rows.set k ds))) K := Iff.rfl
@[simp, simp ↓] theorem updP_al {i j k : Nat} {ds : List D} {K : Ro → Prop} : updP i ds r K (some (.al j k)) ↔ updAl j k ds r K r[j]? := Iff.rfl
@[simp, simp ↓] theorem updK_def {i : Nat} {ds : List D} {K : Ro → Prop} : updK r i ds K ↔ updP i ds r K r[i]? := by
  unfold updK updSl updP
  cases r[i]? with
  | none => exact Iff.rfl
  | some x => cases x with
    | al j k =>
      simp only []
      cases r[j]? with
      | none => exact Iff.rfl
      | some y => cases y with
        | own b c => cases c <;> exact Iff.rfl
        | _ => exact Iff.rfl
    | _ => exact Iff.rfl
def lstO : Option Rs → Option (List D)
  | some (.ow (.lst ds)) => some ds
  | _ => none
@[simp] theorem lstO_lst {ds : List D} : lstO (some (.ow (.lst ds))) = some ds := rfl
@[simp] theorem listAt_def {i : Nat} : listAt r i = lstO (lookSl2 r r[i]?) := by
  unfold listAt
  rw [look2_slot]
  rfl
def mutP (X : Exn → Ro → Prop) (g : List D → List D → Option (List D × D)) (i : Nat) (ms : List (M AV)) (Q : RV → Ro → Prop) (r : Ro) (x : Option (List D)) (t : Tok Q := .tok) (u : Tok X := .tok) (w : Tok ms := .tok) : Prop := match x with
  | none => False
  | some _ => E X (oL ms) r fun as r' => optP (listAt r' i) fun ds => optP (looks2 r' as) fun xs => optP (dataAll xs) fun es => optP (g ds es) fun p => updK r' i p.1 (Q (.val p.2))
@[simp, simp ↓] theorem mutP_some {X : Exn → Ro → Prop} {g : List D → List D → Option (List D × D)} {i : Nat} {ms : List (M AV)} {Q : RV → Ro → Prop} {ds : List D} : mutP X g i ms Q r (some ds) ↔ E X (oL ms) r fun as r' => optP (listAt r' i) fun ds => optP (looks2 r' as) fun xs => optP (dataAll xs) fun es => optP (g ds es) fun p => updK r' i p.1 (Q (.val p.2)) := Iff.rfl
@[simp, simp ↓] theorem E_mMut {X : Exn → Ro → Prop} {g : List D → List D → Option (List D × D)} {i : Nat} {ms : List (M AV)} {Q : RV → Ro → Prop} :
    E X (mMut g i ms) r Q ↔ mutP X g i ms Q r (listAt r i) := by
  cases h : listAt r i with
  | none => rw [E_no (by simp only [mMut, h])]; exact Iff.rfl
  | some ds0 =>
    rw [mutP_some]
    have e0 : ∀ f : List AV → M RV, (mMut g i ms r = (oL ms).bind f r) → (E X (mMut g i ms) r Q ↔ E X ((oL ms).bind f) r Q) := fun f e => by
      unfold E
      rw [e]
    refine (e0 _ (by unfold mMut; rw [h]; rfl)).trans ?_
    refine Iff.trans (E_bind (m := oL ms)) ?_
    constructor
    · intro h
      refine h.mono fun as r' h => ?_
      obtain ⟨v, r2, e, q⟩ := h
      cases h2 : listAt r' i with
      | none => simp only [h2] at e; cases e
      | some ds =>
        cases h3 : looks2 r' as with
        | none => simp only [h2, h3] at e; cases e
        | some xs =>
          cases h4 : dataAll xs with
          | none => simp only [h2, h3, h4] at e; cases e
          | some es =>
            cases h5 : g ds es with
            | none => simp only [h2, h3, h4, h5] at e; cases e
            | some p =>
              simp only [h2, h3, h4, h5] at e
              cases e
              exact ⟨ds, rfl, xs, rfl, es, h4, p, h5, q⟩
    · intro h
      refine h.mono fun as r' h => ?_
      obtain ⟨ds, h2, xs, h3, es, h4, p, h5, q⟩ := h
      exact ⟨.ok _, _, by simp only [h2, h3, h4, h5]; rfl, q⟩
def intO : D → Option Int
  | .int n => some n
  | _ => none
@[simp] theorem intO_i {n : Int} : intO (.int n) = some n := rfl
def subP (i : Nat) (d : D) (mi : M AV) (Q : SO → Ro → Prop) (r : Ro) (x : Option (List D)) (t : Tok Q := .tok) (u : Tok mi := .tok) : Prop := match x with
  | none => False
  | some _ => E (fun x => Q (.exc x)) mi r fun a r2 => optP (listAt r2 i) fun ds => optP (((look2 r2 a).bind Rs.data).bind intO) fun n => optP (ixD ds.length n) fun k => updK r2 i (ds.set k d) (Q .nx)
@[simp, simp ↓] theorem subP_some {i : Nat} {d : D} {mi : M AV} {ds : List D} : subP i d mi Q r (some ds) ↔ E (fun x => Q (.exc x)) mi r fun a r2 => optP (listAt r2 i) fun ds => optP (((look2 r2 a).bind Rs.data).bind intO) fun n => optP (ixD ds.length n) fun k => updK r2 i (ds.set k d) (Q .nx) := Iff.rfl
theorem W_congr {s s' : S} (h : s r = s' r) : W s r Q ↔ W s' r Q := by
  unfold W
  rw [h]
def subIn (i : Nat) (d : D) (a : AV) : S := fun r => match listAt r i, (look2 r a).bind Rs.data with
  | some ds, some (.int n) => (ixD ds.length n).map fun k => (.nx, updSl r i (ds.set k d))
  | _, _ => none
def subS (i : Nat) (d : D) (mi : M AV) : S := fun r => match listAt r i with
  | none => none
  | some _ => sEx mi (subIn i d) r
theorem W_subS {i : Nat} {d : D} {mi : M AV} : W (subS i d mi) r Q ↔ subP i d mi Q r (listAt r i) := by
  cases h : listAt r i with
  | none => rw [W_no (by simp only [subS, h])]; exact Iff.rfl
  | some ds0 =>
    refine (W_congr (s' := sEx mi (subIn i d)) (by simp only [subS, h])).trans ?_
    rw [subP_some]
    refine Iff.trans (W_ex (m := mi)) ?_
    constructor
    · intro h
      refine h.mono fun a r2 h => ?_
      obtain ⟨o, r3, e, q⟩ := h
      cases h2 : listAt r2 i with
      | none => simp only [subIn, h2] at e; cases e
      | some ds =>
        cases h3 : (look2 r2 a).bind Rs.data with
        | none => simp only [subIn, h2, h3] at e; cases e
        | some x =>
          cases x with
          | int n =>
            cases h4 : ixD ds.length n with
            | none => simp only [subIn, h2, h3, h4] at e; cases e
            | some k =>
              simp only [subIn, h2, h3, h4] at e
              cases e
              exact ⟨ds, rfl, n, rfl, k, h4, q⟩
          | _ => simp only [subIn, h2, h3] at e; cases e
    · intro h
      refine h.mono fun a r2 h => ?_
      obtain ⟨ds, h4, n, h5, k, h6, q⟩ := h
      cases h3 : (look2 r2 a).bind Rs.data with
      | none => rw [h3] at h5; cases h5
      | some x =>
        cases x with
        | int n => rw [h3] at h5; cases h5; exact ⟨.nx, updSl r2 i (ds.set k d), by simp only [subIn, h4, h3, h6]; rfl, q⟩
        | _ => rw [h3] at h5; cases h5
@[simp, simp ↓] theorem W_sub {i : Nat} {me : M RV} {mi : M AV} : W (sSub i me mi) r Q ↔ E (fun x => Q (.exc x)) me r fun v r1 => optP v.data fun d => subP i d mi Q r1 (listAt r1 i) := by
  refine Iff.trans (W_ex (m := mFz me) (k := fun d => subS i d mi)) ?_
  simp only [E_mFz, W_subS]
theorem W_al {i j : Nat} {mi : M AV} {b : Bool} {rows : List (List D)} (h0 : r[j]? = some (.own b (.ll rows))) : (E (fun x => Q (.exc x)) mi r fun a r2 => optP (((look2 r2 a).bind Rs.data).bind intO) fun n => ∃ b rows x, r2[j]? = some (.own b (.ll rows)) ∧ r2[i]? = some x ∧ i ≠ j ∧ putSl.pinnedB x = false ∧ optP (ixD rows.length n) fun k => setP r2 i (.al j k) (Q .nx)) → W (sAl i j mi) r Q := fun ⟨a, r2, e2, q⟩ => by
  cases a with
  | ok a =>
    obtain ⟨n, h2, b2, rows2, x, h1, h4, h5, h6, k, h3, q⟩ := q
    refine ⟨.nx, _, ?_, q⟩
    unfold sAl
    cases h7 : (look2 r2 a).bind Rs.data with
    | none => rw [h7] at h2; cases h2
    | some d => cases d with
      | int n' =>
        rw [h7] at h2
        cases h2
        simp only [h0, sEx, e2, h1, h7, h4]
        rw [if_pos ⟨h5, h6⟩, h3]
        rfl
      | _ => rw [h7] at h2; cases h2
  | exc x =>
    refine ⟨.exc x, r2, ?_, q⟩
    unfold sAl
    simp only [h0, sEx, e2]
def handP (xs : List Rs) (P : EO RV → List Rs → Prop) (i : Nat) (r : Ro) (x : Option Sl) (t : Tok P := .tok) : Prop := match x with
  | some (.own false c) => allFz xs = true ∧ setP r i .non fun r' => P (.ok (.new c)) (outs xs 0 r')
  | _ => False
@[simp, simp ↓] theorem handP_own {xs : List Rs} {P : EO RV → List Rs → Prop} {i : Nat} {c : Ct} : handP xs P i r (some (.own false c)) ↔ allFz xs = true ∧ setP r i .non fun r' => P (.ok (.new c)) (outs xs 0 r') := Iff.rfl
@[simp] theorem allFz_nil : allFz [] = true := rfl
@[simp] theorem allFz_cons {d : D} {xs : List Rs} : allFz (.fz d :: xs) = allFz xs := rfl
def retP (xs : List Rs) (P : EO RV → List Rs → Prop) : SO → Ro → Prop
  | .rets i, r => handP xs P i r r[i]?
  | .ret v, r => P (.ok v) (outs xs 0 r)
  | .nx, r => P (.ok (.val .none)) (outs xs 0 r)
  | .exc x, r => P (.exc x) (outs xs 0 r)
  | _, _ => False
@[simp, simp ↓] theorem retP_ret {xs : List Rs} {P : EO RV → List Rs → Prop} {v : RV} : retP xs P (.ret v) r = P (.ok v) (outs xs 0 r) := rfl
@[simp, simp ↓] theorem retP_rets {xs : List Rs} {P : EO RV → List Rs → Prop} {i : Nat} : retP xs P (.rets i) r = handP xs P i r r[i]? := rfl
@[simp, simp ↓] theorem retP_nx {xs : List Rs} {P : EO RV → List Rs → Prop} : retP xs P .nx r = P (.ok (.val .none)) (outs xs 0 r) := rfl
@[simp, simp ↓] theorem retP_exc {xs : List Rs} {P : EO RV → List Rs → Prop} {x : Exn} : retP xs P (.exc x) r = P (.exc x) (outs xs 0 r) := rfl
theorem oks_def {n N : Nat} {body : S} {xs : List Rs} {P : EO RV → List Rs → Prop} (hn : xs.length = n) (h : W body (xs.map toSl ++ List.replicate (N - n) .non) (retP xs P)) : Oks (defSem n N body) xs P := by
  obtain ⟨o, r, e, q⟩ := h
  unfold Oks defSem
  rw [if_pos hn, e]
  cases o with
  | ret v => exact ⟨_, _, rfl, q⟩
  | rets i =>
    change handP xs P i r r[i]? at q
    show ∃ o ys, handOn xs i r = some (o, ys) ∧ P o ys
    unfold handOn
    cases h : r[i]? with
    | none => rw [h] at q; exact q.elim
    | some x =>
      rw [h] at q
      cases x with
      | own b c =>
        cases b with
        | false => simp only [q.1, if_true]; exact ⟨_, _, rfl, q.2⟩
        | true => exact q.elim
      | _ => exact q.elim
  | nx => exact ⟨_, _, rfl, q⟩
  | exc x => exact ⟨_, _, rfl, q⟩
  | _ => exact q.elim
end
end DL
end

section
namespace DL
open PySem
/-- the product is no monster -/
def SmM (a b : Int) : Prop := a.natAbs.log2 + b.natAbs.log2 < 1000000
instance (a b : Int) : Decidable (SmM a b) := inferInstanceAs (Decidable (_ < _))
theorem log2_small {a : Int} (h : -(2 ^ 200) ≤ a ∧ a ≤ 2 ^ 200) : a.natAbs.log2 ≤ 200 := by
  by_cases h0 : a.natAbs = 0
  · rw [h0]; decide
  · have : a.natAbs < 2 ^ 201 := by omega
    exact Nat.le_of_lt_succ ((Nat.log2_lt h0).mpr this)
theorem smM_of {a b : Int} (ha : -(2 ^ 200) ≤ a ∧ a ≤ 2 ^ 200) (hb : -(2 ^ 200) ≤ b ∧ b ≤ 2 ^ 200) : SmM a b := by
  have h1 := log2_small ha
  have h2 := log2_small hb
  unfold SmM
  omega
def SmD (j : Int) : Prop := j.natAbs.log2 < 9000
instance (a : Int) : Decidable (SmD a) := inferInstanceAs (Decidable (_ < _))
theorem smD_of {b : Int} (hb : -(2 ^ 200) ≤ b ∧ b ≤ 2 ^ 200) : SmD b := by
  have h2 := log2_small hb
  unfold SmD
  omega
section
variable {a b : Int}
@[simp] theorem gAdd_ii : gAdd [.fz (.int a), .fz (.int b)] = some (.val (.int (a + b))) := rfl
@[simp] theorem gSub_ii : gSub [.fz (.int a), .fz (.int b)] = some (.val (.int (a - b))) := rfl
@[simp] theorem gMul_ii : gMul [.fz (.int a), .fz (.int b)] = if SmM a b then some (.val (.int (a * b))) else none := rfl
@[simp] theorem gMod_ii : gMod [.fz (.int a), .fz (.int b)] = if 0 < b then some (.val (.int (a % b))) else none := by
  show Option.map _ (if 0 < b then some _ else none) = _
  split <;> rfl
@[simp] theorem gDiv_ii : gDiv [.fz (.int a), .fz (.int b)] = if 0 < b ∧ SmD b then some (.val (.int (a / b))) else none := by
  show Option.map _ (if 0 < b ∧ SmD b then some _ else none) = _
  split <;> rfl
@[simp] theorem gPow_ii : gPow [.fz (.int a), .fz (.int b)] = if 0 ≤ b ∧ b ≤ 1000000 ∧ a.natAbs < 2 ^ 64 then some (.val (.int (a ^ b.toNat))) else none := by
  show Option.map _ (if 0 ≤ b ∧ b ≤ 1000000 ∧ a.natAbs < 2 ^ 64 then some _ else none) = _
  split <;> rfl
@[simp] theorem gLt_ii : gLt [.fz (.int a), .fz (.int b)] = some (.val (.bool (decide (a < b)))) := rfl
@[simp] theorem gLe_ii : gLe [.fz (.int a), .fz (.int b)] = some (.val (.bool (decide (a ≤ b)))) := rfl
@[simp] theorem gGt_ii : gGt [.fz (.int a), .fz (.int b)] = some (.val (.bool (decide (b < a)))) := rfl
@[simp] theorem gGe_ii : gGe [.fz (.int a), .fz (.int b)] = some (.val (.bool (decide (b ≤ a)))) := rfl
theorem eqv_ii : PyData.eqv (.int a) (.int b) = (a == b) := by unfold PyData.eqv; rfl
theorem okD_i : okD (.int a) = true := by
  unfold okD PyData.canLay0 PyData.depth
  rfl
@[simp] theorem gEq_ii : gEq [.fz (.int a), .fz (.int b)] = some (.val (.bool (decide (a = b)))) := by
  show (if okD (.int a) && okD (.int b) then some (RV.val (.bool (PyData.eqv (.int a) (.int b)))) else none) = _
  rw [okD_i, okD_i, eqv_ii]
  rfl
@[simp] theorem gNe_ii : gNe [.fz (.int a), .fz (.int b)] = some (.val (.bool (!decide (a = b)))) := by
  show (if okD (.int a) && okD (.int b) then some (RV.val (.bool (!PyData.eqv (.int a) (.int b)))) else none) = _
  rw [okD_i, okD_i, eqv_ii]
  rfl
@[simp] theorem gAbs_i : gAbs [.fz (.int a)] = some (.val (.int (if a < 0 then -a else a))) := rfl
@[simp] theorem gNeg_i : gNeg [.fz (.int a)] = some (.val (.int (-a))) := rfl
@[simp] theorem gMax2_ii : gMax2 [.fz (.int a), .fz (.int b)] = some (.val (.int (if b > a then b else a))) := rfl
@[simp] theorem gMin2_ii : gMin2 [.fz (.int a), .fz (.int b)] = some (.val (.int (if b < a then b else a))) := rfl
end
section
variable {xs ys : List D} {i : Int} {d : D}
@[simp] theorem gLen_t : gLen [.fz (.tuple xs)] = some (.val (.int xs.length)) := rfl
@[simp] theorem gLen_l : gLen [.fz (.list xs)] = some (.val (.int xs.length)) := rfl
@[simp] theorem gLen_o : gLen [.ow (.lst xs)] = some (.val (.int xs.length)) := rfl
@[simp] theorem gLen_dK {kvs : List (Ky × D)} : gLen [.ow (.dK kvs)] = some (.val (.int kvs.length)) := rfl
@[simp] theorem gLen_ll {rows : List (List D)} : gLen [.ow (.ll rows)] = some (.val (.int rows.length)) := rfl
def ixP (xs : List D) (i : Int) : Option D := (ixD xs.length i).bind fun j => xs[j]?
@[simp] theorem gIx_t : gIx [.fz (.tuple xs), .fz (.int i)] = (ixP xs i).map .val := rfl
@[simp] theorem gIx_l : gIx [.fz (.list xs), .fz (.int i)] = (ixP xs i).map .val := rfl
@[simp] theorem gIx_o : gIx [.ow (.lst xs), .fz (.int i)] = (ixP xs i).map .val := rfl
@[simp] theorem ixP_0 : ixP (d :: xs) 0 = some d := by
  unfold ixP ixD
  simp
theorem ixP_nat {k : Nat} {d : D} (h : xs[k]? = some d) : ixP xs (k : Int) = some d := by
  have := (List.getElem?_eq_some_iff.mp h).1
  unfold ixP ixD
  rw [if_pos (by omega), if_pos (by omega)]
  simpa using h
theorem ixP_pos {i : Int} {d : D} (h0 : 0 ≤ i) (h : xs[i.toNat]? = some d) : ixP xs i = some d := by
  have := ixP_nat h
  rwa [Int.toNat_of_nonneg h0] at this
@[simp] theorem ixP_1 {a : D} : ixP (a :: d :: xs) 1 = some d := ixP_nat (k := 1) rfl
@[simp] theorem ixP_2 {a b : D} : ixP (a :: b :: d :: xs) 2 = some d := ixP_nat (k := 2) rfl
@[simp] theorem gTup_0 : gTup [] = some (.val (.tuple [])) := rfl
@[simp] theorem gTup_1 {a : D} : gTup [.fz a] = some (.val (.tuple [a])) := rfl
@[simp] theorem gTup_2 {a b : D} : gTup [.fz a, .fz b] = some (.val (.tuple [a, b])) := rfl
@[simp] theorem gTup_3 {a b c : D} : gTup [.fz a, .fz b, .fz c] = some (.val (.tuple [a, b, c])) := rfl
@[simp] theorem gLst_0 : gLst [] = some (.new (.lst [])) := rfl
@[simp] theorem gLst_1 {a : D} : gLst [.fz a] = some (.new (.lst [a])) := rfl
@[simp] theorem gLst_2 {a b : D} : gLst [.fz a, .fz b] = some (.new (.lst [a, b])) := rfl
@[simp] theorem gLst_3 {a b c : D} : gLst [.fz a, .fz b, .fz c] = some (.new (.lst [a, b, c])) := rfl
@[simp] theorem gTuple_l : gTuple [.fz (.list xs)] = some (.val (.tuple xs)) := rfl
@[simp] theorem gTuple_o : gTuple [.ow (.lst xs)] = some (.val (.tuple xs)) := rfl
@[simp] theorem gTuple_t : gTuple [.fz (.tuple xs)] = some (.val (.tuple xs)) := rfl
@[simp] theorem gAdd_tt : gAdd [.fz (.tuple xs), .fz (.tuple ys)] = if xs.length + ys.length ≤ lineD then some (.val (.tuple (xs ++ ys))) else none := rfl
@[simp] theorem gRng1_i : gRng1 [.fz (.int i)] = if okR i = true then some (rng 0 i) else none := rfl
@[simp] theorem okR_iff : okR i = true ↔ -(2 ^ 62) ≤ i ∧ i < 2 ^ 62 := by simp [okR]
@[simp] theorem dataAll_nil : dataAll [] = some [] := rfl
@[simp] theorem dataAll_cons {as : List Rs} : dataAll (.fz d :: as) = (dataAll as).map (d :: ·) := rfl
@[simp] theorem gAppend_1 : gAppend xs [d] = if xs.length < lineD then some (xs ++ [d], .none) else none := rfl
@[simp] theorem gInsert_2 : gInsert xs [.int i, d] = if xs.length < lineD ∧ 0 ≤ i ∧ i < 2 ^ 63 then some (xs.take i.toNat ++ [d] ++ xs.drop i.toNat, .none) else none := rfl
@[simp] theorem ixD_0 {n : Nat} : ixD n 0 = if 0 < n then some 0 else none := by
  unfold ixD
  by_cases h : 0 < n
  · rw [if_pos (by omega), if_pos (by omega), if_pos h]; rfl
  · rw [if_pos (by omega), if_neg (by omega), if_neg h]
theorem ixD_nat {n k : Nat} (h : k < n) : ixD n (k : Int) = some k := by
  unfold ixD
  rw [if_pos (by omega), if_pos (by omega)]; rfl
@[simp] theorem ixD_1 {n : Nat} : ixD (n + 2) 1 = some 1 := ixD_nat (k := 1) (by omega)
@[simp] theorem ixD_2 {n : Nat} : ixD (n + 3) 2 = some 2 := ixD_nat (k := 2) (by omega)
end
@[simp] theorem ownIx_nil : ownIx [] [] = [] := rfl
@[simp] theorem ownIx_val {d : D} {as : List AV} {x : Rs} {xs : List Rs} : ownIx (.val d :: as) (x :: xs) = ownIx as xs := rfl
@[simp] theorem ownIx_fz {i : Nat} {d : D} {as : List AV} {xs : List Rs} : ownIx (.slot i :: as) (.fz d :: xs) = ownIx as xs := rfl
@[simp] theorem ownIx_ow {i : Nat} {c : Ct} {as : List AV} {xs : List Rs} : ownIx (.slot i :: as) (.ow c :: xs) = i :: ownIx as xs := rfl
@[simp] theorem backSl_ow {b : Bool} {c : Ct} : backSl b (.ow c) = .own b c := rfl
@[simp] theorem backSl_fz {b : Bool} {d : D} : backSl b (.fz d) = .frz b d := rfl
@[simp] theorem toSl_fz {d : D} : toSl (.fz d) = .frz false d := rfl
@[simp] theorem toSl_ow {c : Ct} : toSl (.ow c) = .own true c := rfl
@[simp] theorem outs_nil {k : Nat} {r : Ro} : outs [] k r = [] := rfl
@[simp] theorem outs_fz {d : D} {xs : List Rs} {k : Nat} {r : Ro} : outs (.fz d :: xs) k r = .fz d :: outs xs (k + 1) r := rfl
def outP (c : Ct) : Option Sl → Rs
  | some (.own _ c') => .ow c'
  | some (.frz _ d) => .fz d
  | _ => .ow c
@[simp] theorem outP_own {c c' : Ct} {b : Bool} : outP c (some (.own b c')) = .ow c' := rfl
@[simp] theorem outP_frz {c : Ct} {d : D} {b : Bool} : outP c (some (.frz b d)) = .fz d := rfl
@[simp] theorem outs_ow {c : Ct} {xs : List Rs} {k : Nat} {r : Ro} : outs (.ow c :: xs) k r = outP c r[k]? :: outs xs (k + 1) r := rfl
def alB (i : Nat) : Sl → Bool
  | .al j _ => j != i
  | _ => true
@[simp] theorem noAl_nil {i : Nat} : noAl [] i = true := rfl
@[simp] theorem noAl_cons {i : Nat} {x : Sl} {r : Ro} : noAl (x :: r) i = (alB i x && noAl r i) := by
  unfold noAl
  rw [List.all_cons]
  cases x <;> rfl
@[simp] theorem alB_frz {i : Nat} {b : Bool} {d : D} : alB i (.frz b d) = true := rfl
@[simp] theorem alB_own {i : Nat} {b : Bool} {c : Ct} : alB i (.own b c) = true := rfl
@[simp] theorem alB_non {i : Nat} : alB i .non = true := rfl
@[simp] theorem alB_al {i j k : Nat} : alB i (.al j k) = (j != i) := rfl
/-- a slot that a loop may store to -/
structure Fr (x : Sl) : Prop where
  pin : putSl.pinnedB x = false
  al : ∀ i, alB i x = true
theorem Fr.non : Fr .non := ⟨rfl, fun _ => rfl⟩
theorem Fr.frz {d : D} : Fr (.frz false d) := ⟨rfl, fun _ => rfl⟩
theorem Fr.lst {c : Ct} : Fr (.own false c) := ⟨rfl, fun _ => rfl⟩
end DL
end

section
namespace DL
open PySem
section
variable {X : Exn → Ro → Prop} {r : Ro}
/-- the walk of a comprehension -/
def lcK (vs : List Nat) (set : D → S) (t : M Bool) (e : M RV) (ds acc : List D) (r : Ro) (k : List D → Ro → Prop) : Prop := ∃ zs r', lcM vs set t e ds acc r = some (zs, r') ∧ k zs r'
def wipeP (r : Ro) (k : Ro → Prop) : List Nat → Prop
  | [] => k r
  | v :: vs => wipeP r (fun r' => setP r' v .non k) vs
@[simp, simp ↓] theorem wipeP_nil {k : Ro → Prop} : wipeP r k [] ↔ k r := Iff.rfl
@[simp, simp ↓] theorem wipeP_cons {v : Nat} {vs : List Nat} {k : Ro → Prop} : wipeP r k (v :: vs) ↔ wipeP r (fun r' => setP r' v .non k) vs := Iff.rfl
theorem wipeP_eq {vs : List Nat} : ∀ {k : Ro → Prop}, wipeP r k vs ↔ k (wipeR r vs) := by
  induction vs with
  | nil => intro k; exact Iff.rfl
  | cons v vs ih => intro k; exact ih
@[simp, simp ↓] theorem E_mLc {vs : List Nat} {mi : M (List D)} {set : D → S} {t : M Bool} {e : M RV} {Q : RV → Ro → Prop} : E X (mLc vs mi set t e) r Q ↔ E X mi r fun ds r' => anyPin r' vs = false ∧ wipeP r' (fun r2 => lcK vs set t e ds [] r2 fun zs r3 => Q (.new (.lst zs)) r3) vs := by
  refine Iff.trans (E_bind (m := mi)) ?_
  simp only [wipeP_eq]
  constructor
  · intro h
    refine h.mono fun ds r' h => ?_
    obtain ⟨v, r2, e1, q⟩ := h
    cases h1 : anyPin r' vs with
    | true => simp [h1] at e1
    | false =>
      simp only [h1, Bool.false_eq_true, if_false] at e1
      obtain ⟨⟨a, b⟩, e2, e3⟩ := Option.map_eq_some_iff.mp e1
      cases e3
      exact ⟨rfl, a, b, e2, q⟩
  · intro h
    refine h.mono fun ds r' ⟨h1, a, b, e2, q⟩ => ?_
    exact ⟨.ok (.new (.lst a)), b, by simp only [h1, e2]; rfl, q⟩
/-- the item behind the test -/
def itP (t : M Bool) (e : M RV) (k : Option D → Ro → Prop) : SO → Ro → Prop
  | .nx, r => E (fun _ _ => False) t r fun b r2 => ifP b (E (fun _ _ => False) (mFz e) r2 fun x r3 => k (some x) r3) (k none r2)
  | _, _ => False
@[simp, simp ↓] theorem itP_nx {t : M Bool} {e : M RV} {k : Option D → Ro → Prop} : itP t e k .nx r ↔ E (fun _ _ => False) t r fun b r2 => ifP b (E (fun _ _ => False) (mFz e) r2 fun x r3 => k (some x) r3) (k none r2) := Iff.rfl
/-- a comprehension by what each item gives -/
theorem lcK_of {vs : List Nat} {set : D → S} {t : M Bool} {e : M RV} (f : D → Option D) : ∀ {ds acc : List D} {k : List D → Ro → Prop},
    (∀ d ∈ ds, W (set d) r (itP t e fun x r3 => x = f d ∧ wipeP r3 (fun r4 => r4 = r) vs)) → acc.length + ds.length ≤ lineD → k (acc ++ ds.filterMap f) r → lcK vs set t e ds acc r k := by
  intro ds
  induction ds with
  | nil => intro acc k _ _ hk; exact ⟨_, _, rfl, by simpa using hk⟩
  | cons d ds ih =>
    intro acc k hs hl hk
    obtain ⟨o, r1, e1, h⟩ := hs d (List.mem_cons_self ..)
    have rest := fun d' h' => hs d' (List.mem_cons_of_mem _ h')
    cases o with
    | nx =>
      obtain ⟨b, r2, e2, h⟩ := h
      cases b with
      | exc x => exact h.elim
      | ok b =>
        cases b with
        | true =>
          have h := ifP_true.mp h
          obtain ⟨x, r3, e3, h⟩ := h
          cases x with
          | exc x => exact h.elim
          | ok x =>
            obtain ⟨h1, h2⟩ := h
            rw [wipeP_eq] at h2
            have : (acc ++ [x]).length + ds.length ≤ lineD := by simp at hl ⊢; omega
            obtain ⟨zs, r', e4, q⟩ := ih (acc := acc ++ [x]) rest this (by simpa [List.filterMap_cons, ← h1] using hk)
            refine ⟨zs, r', ?_, q⟩
            unfold lcM
            simp only [e1, e2, e3, h2]
            rw [if_pos (by simp at hl; omega)]
            exact e4
        | false =>
          have h := ifP_false.mp h
          obtain ⟨h1, h2⟩ := h
          rw [wipeP_eq] at h2
          obtain ⟨zs, r', e4, q⟩ := ih (acc := acc) rest (by simp at hl ⊢; omega) (by simpa [List.filterMap_cons, ← h1] using hk)
          refine ⟨zs, r', ?_, q⟩
          unfold lcM
          simp only [e1, e2, h2]
          exact e4
    | _ => exact h.elim
theorem lcK_map {vs : List Nat} {set : D → S} {t : M Bool} {e : M RV} (f : D → D) {ds : List D} {k : List D → Ro → Prop}
    (h : ∀ d ∈ ds, W (set d) r (itP t e fun x r3 => x = some (f d) ∧ wipeP r3 (fun r4 => r4 = r) vs)) (hl : ds.length ≤ lineD) (hk : k (ds.map f) r) : lcK vs set t e ds [] r k :=
  lcK_of (fun d => some (f d)) h (by simpa using hl) (by simpa using hk)
/-- new lists -/
def lcLK (vs : List Nat) (set : D → S) (t : M Bool) (e : M RV) (ds : List D) (acc : List (List D)) (r : Ro) (k : List (List D) → Ro → Prop) : Prop := ∃ zs r', lcL vs set t e ds acc r = some (zs, r') ∧ k zs r'
@[simp, simp ↓] theorem E_mLcL {vs : List Nat} {mi : M (List D)} {set : D → S} {t : M Bool} {e : M RV} {Q : RV → Ro → Prop} : E X (mLcL vs mi set t e) r Q ↔ E X mi r fun ds r' => anyPin r' vs = false ∧ wipeP r' (fun r2 => lcLK vs set t e ds [] r2 fun zs r3 => Q (.new (.ll zs)) r3) vs := by
  refine Iff.trans (E_bind (m := mi)) ?_
  simp only [wipeP_eq]
  constructor
  · intro h
    refine h.mono fun ds r' h => ?_
    obtain ⟨v, r2, e1, q⟩ := h
    cases h1 : anyPin r' vs with
    | true => simp [h1] at e1
    | false =>
      simp only [h1, Bool.false_eq_true, if_false] at e1
      obtain ⟨⟨a, b⟩, e2, e3⟩ := Option.map_eq_some_iff.mp e1
      cases e3
      exact ⟨rfl, a, b, e2, q⟩
  · intro h
    refine h.mono fun ds r' ⟨h1, a, b, e2, q⟩ => ?_
    exact ⟨.ok (.new (.ll a)), b, by simp only [h1, e2]; rfl, q⟩
def itLP (t : M Bool) (e : M RV) (k : RV → Ro → Prop) : SO → Ro → Prop
  | .nx, r => E (fun _ _ => False) t r fun b r2 => ifP b (E (fun _ _ => False) e r2 k) False
  | _, _ => False
@[simp, simp ↓] theorem itLP_nx {t : M Bool} {e : M RV} {k : RV → Ro → Prop} : itLP t e k .nx r ↔ E (fun _ _ => False) t r fun b r2 => ifP b (E (fun _ _ => False) e r2 k) False := Iff.rfl
theorem lcLK_map {vs : List Nat} {set : D → S} {t : M Bool} {e : M RV} (f : D → List D) : ∀ {ds : List D} {acc : List (List D)} {k : List (List D) → Ro → Prop},
    (∀ d ∈ ds, W (set d) r (itLP t e fun x r3 => x = .new (.lst (f d)) ∧ wipeP r3 (fun r4 => r4 = r) vs)) → acc.length + ds.length ≤ lineD → k (acc ++ ds.map f) r → lcLK vs set t e ds acc r k := by
  intro ds
  induction ds with
  | nil => intro acc k _ _ hk; exact ⟨_, _, rfl, by simpa using hk⟩
  | cons d ds ih =>
    intro acc k hs hl hk
    obtain ⟨o, r1, e1, h⟩ := hs d (List.mem_cons_self ..)
    have rest := fun d' h' => hs d' (List.mem_cons_of_mem _ h')
    cases o with
    | nx =>
      obtain ⟨b, r2, e2, h⟩ := h
      cases b with
      | exc x => exact h.elim
      | ok b =>
        cases b with
        | true =>
          have h := ifP_true.mp h
          obtain ⟨x, r3, e3, h⟩ := h
          cases x with
          | exc x => exact h.elim
          | ok x =>
            obtain ⟨rfl, h2⟩ := h
            rw [wipeP_eq] at h2
            have : (acc ++ [f d]).length + ds.length ≤ lineD := by simp at hl ⊢; omega
            obtain ⟨zs, r', e4, q⟩ := ih (acc := acc ++ [f d]) rest this (by simpa using hk)
            refine ⟨zs, r', ?_, q⟩
            unfold lcL
            simp only [e1, e2, e3, h2]
            rw [if_pos (by simp at hl; omega)]
            exact e4
        | false => exact (ifP_false.mp h).elim
    | _ => exact h.elim
@[simp, simp ↓] theorem E_mBd_none {Q : Option Int → Ro → Prop} : E X (mBd none) r Q ↔ Q none r := E_ret
@[simp, simp ↓] theorem E_mBd_some {m : M AV} {Q : Option Int → Ro → Prop} : E X (mBd (some m)) r Q ↔ E X m r fun a r1 => optP (((look2 r1 a).bind Rs.data).bind intO) fun n => Q (some n) r1 := by
  refine Iff.trans (E_bind (m := m)) ?_
  constructor
  · intro h
    refine h.mono fun a r' h => ?_
    obtain ⟨v, r2, e1, q⟩ := h
    cases h1 : (look2 r' a).bind Rs.data with
    | none => simp only [h1] at e1; cases e1
    | some d => cases d with
      | int n => simp only [h1] at e1; cases e1; exact ⟨n, rfl, q⟩
      | _ => simp only [h1] at e1; cases e1
  · intro h
    refine h.mono fun a r' ⟨n, h1, q⟩ => ?_
    cases h2 : (look2 r' a).bind Rs.data with
    | none => rw [h2] at h1; cases h1
    | some d => cases d with
      | int n => rw [h2] at h1; cases h1; exact ⟨.ok (some n), r', by simp only [h2], q⟩
      | _ => rw [h2] at h1; cases h1
theorem E_fun {α β : Type} {m : M α} {f : α → M β} {g : α → Ro → Option β} (hf : ∀ a r, f a r = (g a r).map fun v => (.ok v, r)) {Q : β → Ro → Prop} : E X (m.bind f) r Q ↔ E X m r fun a r1 => optP (g a r1) fun v => Q v r1 := by
  refine Iff.trans E_bind ?_
  constructor
  · intro h
    refine h.mono fun a r' ⟨v, r2, e1, q⟩ => ?_
    rw [hf] at e1
    cases h1 : g a r' with
    | none => rw [h1] at e1; cases e1
    | some b => rw [h1] at e1; cases e1; exact ⟨b, rfl, q⟩
  · intro h
    refine h.mono fun a r' ⟨v, e1, q⟩ => ?_
    exact ⟨.ok v, r', by rw [hf, e1]; rfl, q⟩
@[simp, simp ↓] theorem E_mSl {m : M AV} {lo hi : Option (M AV)} {Q : RV → Ro → Prop} : E X (mSl m lo hi) r Q ↔ E X m r fun a r1 => E X (mBd lo) r1 fun l r2 => E X (mBd hi) r2 fun h r3 => optP ((look2 r3 a).bind (gCut l h)) fun v => Q v r3 := by
  refine Iff.trans (E_bind (m := m)) ?_
  constructor <;> intro h <;> refine h.mono fun a r1 h => ?_
  · refine (E_bind (m := mBd lo).mp h).mono fun l r2 h => ?_
    exact (E_fun (m := mBd hi) fun _ _ => rfl).mp h
  · refine E_bind (m := mBd lo).mpr (h.mono fun l r2 h => ?_)
    exact (E_fun (m := mBd hi) fun _ _ => rfl).mpr h
@[simp] theorem gCut_t {lo hi : Option Int} {xs : List D} : gCut lo hi (.fz (.tuple xs)) = some (.val (.tuple (cutD xs lo hi))) := rfl
@[simp] theorem gCut_l {lo hi : Option Int} {xs : List D} : gCut lo hi (.fz (.list xs)) = some (.new (.lst (cutD xs lo hi))) := rfl
@[simp] theorem gCut_o {lo hi : Option Int} {xs : List D} : gCut lo hi (.ow (.lst xs)) = some (.new (.lst (cutD xs lo hi))) := rfl
theorem scrL_map (ns : List Int) : scrL (ns.map fun n => (PyData.int n, PyData.none)) = some ns := by
  induction ns with
  | nil => rfl
  | cons n ns ih => simp [scrL, ih]
theorem scrOf_map (ns : List Int) : scrOf ((PyData.none, PyData.none) :: ns.map fun n => (PyData.int n, PyData.none)) = some ns := scrL_map ns
@[simp] theorem gCut_scr {lo hi : Option Int} {ns : List Int} : gCut lo hi (.fz (.dict ((.none, .none) :: ns.map fun n => (PyData.int n, PyData.none)))) = some (.new (.lst ((cutD ns lo hi).map .int))) := by
  show (scrOf ((PyData.none, PyData.none) :: ns.map fun n => (PyData.int n, PyData.none))).map _ = _
  rw [scrOf_map]
  rfl
@[simp, simp ↓] theorem E_mIsi {ts : List Ty} {m : M AV} {Q : RV → Ro → Prop} : E X (mIsi ts m) r Q ↔ E X m r fun a r1 => optP ((look2 r1 a).bind Rs.data) fun d => optP (anyTy ts d) fun b => Q (.val (.bool b)) r1 := by
  refine Iff.trans (E_fun (m := m) (g := fun a r => ((look2 r a).bind Rs.data).bind fun d => (anyTy ts d).map fun b => .val (.bool b)) fun a r => ?_) ?_
  · cases (look2 r a).bind Rs.data with
    | none => rfl
    | some d => cases h : anyTy ts d <;> simp [h]
  · constructor
    · exact fun h => h.mono fun a r1 ⟨v, e, q⟩ => by
        obtain ⟨d, e1, e2⟩ := Option.bind_eq_some_iff.mp e
        obtain ⟨b, e3, rfl⟩ := Option.map_eq_some_iff.mp e2
        exact ⟨d, e1, b, e3, q⟩
    · exact fun h => h.mono fun a r1 ⟨d, e1, b, e3, q⟩ => ⟨.val (.bool b), by rw [e1]; simp [e3], q⟩
@[simp, simp ↓] theorem E_mNewK {Q : RV → Ro → Prop} : E X mNewK r Q ↔ Q (.new (.dK [])) r := E_ret
@[simp] theorem keyAt_def {a : AV} : keyAt r a = ((look2 r a).bind Rs.data).bind kyOf := rfl
@[simp] theorem kyOf_i {n : Int} : kyOf (.int n) = some (.inl n) := rfl
@[simp] theorem kyOf_s {x : Str} : kyOf (.str x) = some (.inr x) := rfl
theorem E_cong {α : Type} {m m' : M α} {Q : α → Ro → Prop} (h : m r = m' r) : E X m r Q ↔ E X m' r Q := by
  unfold E
  rw [h]
theorem valD_put {κ : Type} [DecidableEq κ] {kvs : List (κ × D)} {k k' : κ} {v : D} : valD (putD kvs k v) k' = if k' = k then some v else valD kvs k' := by
  unfold putD
  split
  · rename_i h
    obtain ⟨⟨k0, v0⟩, hm, h0⟩ := List.any_eq_true.mp h
    unfold valD
    clear h
    induction kvs with
    | nil => cases hm
    | cons a kvs ih =>
      obtain ⟨ka, va⟩ := a
      rw [List.map_cons]
      by_cases hka : ka = k
      · subst hka
        by_cases hk' : k' = ka
        · subst hk'; simp
        · have hk2 : ¬ ka = k' := fun e => hk' e.symm
          simp only [if_true, List.find?_cons, hk2, decide_false, hk', if_false]
          clear ih hm
          induction kvs with
          | nil => rfl
          | cons b kvs ih2 =>
            obtain ⟨kb, vb⟩ := b
            rw [List.map_cons]
            by_cases hkb : kb = ka
            · subst hkb
              simp only [if_true, List.find?_cons, hk2, decide_false]
              exact ih2
            · simp only [hkb, if_false, List.find?_cons]
              by_cases hkb' : kb = k'
              · simp [hkb']
              · simp only [hkb', decide_false]; exact ih2
      · rcases List.mem_cons.mp hm with e | hm
        · cases e; simp at h0; exact absurd h0 hka
        · have := ih hm
          simp only [hka, if_false, List.find?_cons]
          by_cases hk' : ka = k'
          · have : ¬ k' = k := fun e => hka (hk'.trans e)
            simp [hk', this]
          · simp only [hk', decide_false]; exact this
  · rename_i h
    unfold valD
    rw [List.find?_append]
    by_cases hk : k' = k
    · subst hk
      have : kvs.find? (fun kv => decide (kv.1 = k')) = none := List.find?_eq_none.mpr fun x hx hd => h (List.any_eq_true.mpr ⟨x, hx, hd⟩)
      rw [this]
      simp
    · have : ¬ k = k' := fun e => hk e.symm
      cases kvs.find? (fun kv => decide (kv.1 = k')) <;> simp [hk, this]
theorem putD_len {κ : Type} [DecidableEq κ] {kvs : List (κ × D)} {k : κ} {v : D} : (putD kvs k v).length ≤ kvs.length + 1 := by
  unfold putD
  split <;> simp
theorem sIxD_nat {n d k : Nat} : sIxD n d (some (k : Int)) = min k n := by
  unfold sIxD
  dsimp only
  rw [if_neg (by omega)]
  simp
theorem cutD_take {α : Type} {xs : List α} {n : Nat} : cutD xs none (some (n : Int)) = xs.take n := by
  unfold cutD
  rw [sIxD_nat]
  show List.take (min n xs.length - 0) (List.drop 0 xs) = _
  rw [Nat.sub_zero, List.drop_zero]
  by_cases h : n ≤ xs.length
  · rw [Nat.min_eq_left h]
  · rw [Nat.min_eq_right (by omega), List.take_of_length_le (by omega), List.take_of_length_le (by omega)]
theorem cutD_drop {α : Type} {xs : List α} {n : Nat} : cutD xs (some (n : Int)) none = xs.drop n := by
  unfold cutD
  rw [sIxD_nat]
  show List.take (xs.length - _) _ = _
  by_cases h : n ≤ xs.length
  · rw [Nat.min_eq_left h, List.take_of_length_le (by simp)]
  · rw [Nat.min_eq_right (by omega), List.drop_eq_nil_of_le (by omega), List.drop_eq_nil_of_le (by omega)]; simp
@[simp] theorem cutD_take1 {α : Type} {xs : List α} : cutD xs none (some 1) = xs.take 1 := cutD_take (n := 1)
@[simp] theorem cutD_drop1 {α : Type} {xs : List α} : cutD xs (some 1) none = xs.drop 1 := cutD_drop (n := 1)
end
end DL
end

section
namespace DL
open PySem
section
variable {X : Exn → Ro → Prop} {r : Ro}
/-- the answer of a call that looks -/
def peekV : Option (EO RV × List Rs) → Nat → Option RV
  | some (.ok (.val d), ys), n => if flatD d && decide (ys.length = n) then some (.val d) else none
  | _, _ => none
@[simp] theorem peekV_ok {d : D} {ys : List Rs} {n : Nat} : peekV (some (.ok (.val d), ys)) n = if flatD d && decide (ys.length = n) then some (.val d) else none := rfl
@[simp] theorem flatD_b {b : Bool} : flatD (.bool b) = true := rfl
@[simp] theorem flatD_i {b : Int} : flatD (.int b) = true := rfl
@[simp] theorem flatD_n : flatD .none = true := rfl
@[simp] theorem flatD_s {b : Str} : flatD (.str b) = true := rfl
def viewsO : List Rs → Option (List Rs)
  | [] => some []
  | x :: xs => consO x.view (viewsO xs)
theorem mapM_view : ∀ xs : List Rs, xs.mapM Rs.view = viewsO xs
  | [] => rfl
  | x :: xs => by
    rw [List.mapM_cons, mapM_view xs]
    show _ = consO x.view (viewsO xs)
    cases x.view <;> cases viewsO xs <;> rfl
@[simp] theorem viewsO_nil : viewsO [] = some [] := rfl
@[simp] theorem viewsO_cons {x : Rs} {xs : List Rs} : viewsO (x :: xs) = consO x.view (viewsO xs) := rfl
@[simp] theorem view_fz {d : D} : (Rs.fz d).view = some (.fz d) := rfl
@[simp] theorem view_lst {ds : List D} : (Rs.ow (.lst ds)).view = some (.fz (.list ds)) := rfl
@[simp] theorem view_ll {rows : List (List D)} : (Rs.ow (.ll rows)).view = some (.fz (.list (rows.map .list))) := rfl
@[simp, simp ↓] theorem E_mPeek {f : Sem} {ms : List (M AV)} {Q : RV → Ro → Prop} : E X (mPeek f ms) r Q ↔ E X (oL ms) r fun as r' => optP (looks2 r' as) fun xs => optP (viewsO xs) fun ys => optP (peekV (f ys) ys.length) fun v => Q v r' := by
  refine Iff.trans (E_bind (m := oL ms)) ?_
  constructor
  · intro h
    refine h.mono fun as r' h => ?_
    obtain ⟨v, r2, e, q⟩ := h
    cases h2 : looks2 r' as with
    | none => simp [h2] at e
    | some xs =>
      simp only [h2, Option.bind_some, mapM_view] at e
      cases h3 : viewsO xs with
      | none => simp [h3] at e
      | some ys =>
        simp only [h3] at e
        split at e
        · rename_i d zs h4
          split at e
          · rename_i hc
            cases e
            exact ⟨xs, rfl, ys, h3, .val d, by rw [h4, peekV_ok, if_pos hc], q⟩
          · cases e
        · cases e
  · intro h
    refine h.mono fun as r' h => ?_
    obtain ⟨xs, e1, ys, e2, v, e3, q⟩ := h
    have e4 : ∃ d zs, f ys = some (.ok (.val d), zs) ∧ (flatD d && decide (zs.length = ys.length)) = true ∧ v = .val d := by
      cases hf : f ys with
      | none => rw [hf] at e3; cases e3
      | some p =>
        obtain ⟨o, zs⟩ := p
        rw [hf] at e3
        cases o with
        | exc x => cases e3
        | ok rv =>
          cases rv with
          | new c => cases e3
          | val d =>
            rw [peekV_ok] at e3
            split at e3
            · rename_i hc
              cases e3
              exact ⟨d, zs, rfl, hc, rfl⟩
            · cases e3
    obtain ⟨d, zs, e5, e6, rfl⟩ := e4
    exact ⟨.ok (.val d), r', by simp only [e1, Option.bind_some, mapM_view, e2, e5]; rw [if_pos e6], q⟩
end
section
variable {xs ys ds : List D} {d e : D} {i : Int}
@[simp] theorem gAdd_ll : gAdd [.fz (.list xs), .fz (.list ys)] = if xs.length + ys.length ≤ lineD then some (.new (.lst (xs ++ ys))) else none := rfl
@[simp] theorem gInS_l {neg : Bool} : gInS neg [.fz d, .fz (.list ys)] = if okE d && ys.all okE then some (.val (.bool (neg ^^ ys.any fun y => PyData.eqv y d))) else none := rfl
@[simp] theorem gInS_t {neg : Bool} : gInS neg [.fz d, .fz (.tuple ys)] = if okE d && ys.all okE then some (.val (.bool (neg ^^ ys.any fun y => PyData.eqv y d))) else none := rfl
@[simp] theorem gInS_o {neg : Bool} : gInS neg [.fz d, .ow (.lst ys)] = if okE d && ys.all okE then some (.val (.bool (neg ^^ ys.any fun y => PyData.eqv y d))) else none := rfl
@[simp] theorem gSort_l : gSort [.fz (.list ds)] = if srtOk ds then some (.new (.lst (srtD ds))) else none := rfl
@[simp] theorem gSort_t : gSort [.fz (.tuple ds)] = if srtOk ds then some (.new (.lst (srtD ds))) else none := rfl
@[simp] theorem gSort_o : gSort [.ow (.lst ds)] = if srtOk ds then some (.new (.lst (srtD ds))) else none := rfl
@[simp] theorem gMinL_l : gMinL [.fz (.list (d :: ds))] = if mmOk (d :: ds) then some (.val (W.minD d ds)) else none := rfl
@[simp] theorem gMinL_t : gMinL [.fz (.tuple (d :: ds))] = if mmOk (d :: ds) then some (.val (W.minD d ds)) else none := rfl
@[simp] theorem gMinL_o : gMinL [.ow (.lst (d :: ds))] = if mmOk (d :: ds) then some (.val (W.minD d ds)) else none := rfl
@[simp] theorem gMaxL_l : gMaxL [.fz (.list (d :: ds))] = if mmOk (d :: ds) then some (.val (W.maxD d ds)) else none := rfl
@[simp] theorem gMaxL_t : gMaxL [.fz (.tuple (d :: ds))] = if mmOk (d :: ds) then some (.val (W.maxD d ds)) else none := rfl
@[simp] theorem gMaxL_o : gMaxL [.ow (.lst (d :: ds))] = if mmOk (d :: ds) then some (.val (W.maxD d ds)) else none := rfl
end
/-- data's looks -/
@[simp] theorem okE_i {i : Int} : okE (.int i) = true := by unfold okE PyData.canLay0 PyData.depth; rfl
@[simp] theorem okE_b {i : Bool} : okE (.bool i) = true := by unfold okE PyData.canLay0 PyData.depth; rfl
@[simp] theorem okE_n : okE .none = true := by unfold okE PyData.canLay0 PyData.depth; rfl
theorem lay_ints (ns : List Int) : PyData.canLayAll0 (ns.map .int) = true := by
  induction ns with
  | nil => simp [PyData.canLayAll0]
  | cons n ns ih => simp [PyData.canLayAll0, PyData.canLay0, ih]
theorem dep_ints (ns : List Int) : PyData.depthAll (ns.map .int) = 0 := W.depth_ints ns
@[simp] theorem okE_ti {ns : List Int} : okE (.tuple (ns.map .int)) = true := by
  unfold okE PyData.canLay0 PyData.depth
  rw [lay_ints, dep_ints]
  rfl
@[simp] theorem okE_li {ns : List Int} : okE (.list (ns.map .int)) = true := by
  unfold okE PyData.canLay0 PyData.depth
  rw [lay_ints, dep_ints]
  rfl
@[simp] theorem all_okE_ints {ns : List Int} : (ns.map PyData.int).all okE = true := by
  rw [List.all_map]
  exact List.all_eq_true.mpr fun n _ => okE_i
theorem eqv_ints : ∀ (ns ms : List Int), PyData.eqvAll (ns.map .int) (ms.map .int) = decide (ns = ms)
  | [], [] => by simp [PyData.eqvAll]
  | [], _ :: _ => by simp [PyData.eqvAll]
  | _ :: _, [] => by simp [PyData.eqvAll]
  | n :: ns, m :: ms => by
    simp only [List.map_cons, PyData.eqvAll, eqv_ints ns ms, eqv_ii]
    by_cases h : n = m <;> simp [h]
@[simp] theorem eqv_ti {ns ms : List Int} : PyData.eqv (.tuple (ns.map .int)) (.tuple (ms.map .int)) = decide (ns = ms) := by
  unfold PyData.eqv
  exact eqv_ints ns ms
@[simp] theorem eqv_int2 {a b : Int} : PyData.eqv (.int a) (.int b) = decide (a = b) := by
  rw [eqv_ii]
  rfl
end DL
end

section
namespace DL
open PySem
end DL
end

section
namespace DL
open PySem
section
variable {X : Exn → Ro → Prop} {r : Ro}
end
end DL
end

section
namespace DL
open PySem
section
variable {X : Exn → Ro → Prop} {r : Ro}
end
end DL
end

section
namespace DL
open PySem
section
variable {X : Exn → Ro → Prop} {r : Ro}
end
end DL
end

section
namespace DL
open PySem
section
variable {X : Exn → Ro → Prop} {r : Ro}
@[simp] theorem boolR_b {b : Bool} : boolR (.val (.bool b)) = some b := rfl
@[simp, simp ↓] theorem E_mChain {g g' : List Rs → Option RV} {oa ob oc : M AV} {Q : RV → Ro → Prop} : E X (mChain g g' oa ob oc) r Q ↔ E X oa r fun a r1 => E X ob r1 fun b r2 => optP (looks2 r2 [a, b]) fun xs => optP (g xs) fun v => optP (boolR v) fun k => ifP k (E X oc r2 fun c r3 => optP (looks2 r3 [b, c]) fun ys => optP (g' ys) fun v => Q v r3) (Q (.val (.bool false)) r2) := by
  unfold mChain
  refine E_bind.trans ?_
  constructor
  all_goals
    intro h
    refine h.mono fun a r1 h => ?_
  · refine (E_bind.mp h).mono fun b r2 h => ?_
    obtain ⟨o, r3, e, q⟩ := h
    cases q1 : ((looks2 r2 [a, b]).bind g).bind boolR with
    | none =>
      have e' : (match ((looks2 r2 [a, b]).bind g).bind boolR with | none => none | some k => mChainT g' oc b k r2) = some (o, r3) := e
      rw [q1] at e'
      cases e'
    | some k =>
      have e : (match ((looks2 r2 [a, b]).bind g).bind boolR with | none => none | some k => mChainT g' oc b k r2) = some (o, r3) := e
      obtain ⟨z, q2, q3⟩ := Option.bind_eq_some_iff.mp q1
      obtain ⟨xs, q4, q5⟩ := Option.bind_eq_some_iff.mp q2
      refine ⟨xs, q4, z, q5, k, q3, ?_⟩
      rw [q1] at e
      have h2 : E X (mChainT g' oc b k) r2 Q := ⟨o, r3, e, q⟩
      cases k with
      | true =>
        rw [ifP_true]
        refine (E_bind.mp (show E X (oc.bind fun c => mFin g' [b, c]) r2 Q from h2)).mono fun c r3 h => ?_
        exact E_mFin.mp h
      | false => rw [ifP_false]; exact E_ret.mp h2
  · refine E_bind.mpr (h.mono fun b r2 h => ?_)
    obtain ⟨xs, q4, z, q5, k, q3, h⟩ := h
    have h2 : E X (mChainT g' oc b k) r2 Q := by
      cases k with
      | true => rw [ifP_true] at h; exact E_bind.mpr (E.mono h fun c r3 h => E_mFin.mpr h)
      | false => rw [ifP_false] at h; exact E_ret.mpr h
    obtain ⟨o, r3, e, q⟩ := h2
    refine ⟨o, r3, ?_, q⟩
    show (match ((looks2 r2 [a, b]).bind g).bind boolR with | none => none | some k => mChainT g' oc b k r2) = _
    rw [q4, Option.bind_some, q5, Option.bind_some, q3]
    exact e
end
end DL
end

section
namespace DL
open PySem
section
variable {X : Exn → Ro → Prop} {r : Ro}
end
end DL
end

section
namespace DL
open PySem
section
variable {r : Ro}
end
end DL
end

section
namespace DL
open PySem
section
variable {X : Exn → Ro → Prop} {r : Ro}
end
end DL
end

section
namespace DL
open PySem
section
variable {X : Exn → Ro → Prop} {r : Ro}
@[simp] theorem hideSl_f {b : Bool} {d : D} : hideSl (.frz b d) = .frz b d := rfl
@[simp] theorem hideSl_n : hideSl .non = .non := rfl
@[simp] theorem hideSl_o {b : Bool} {c : Ct} : hideSl (.own b c) = .non := rfl
@[simp] theorem hideSl_a {j k : Nat} : hideSl (.al j k) = .non := rfl
theorem Fr.hide {x : Sl} (h : Fr x) : Fr (hideSl x) := by
  cases x with
  | frz b d => exact h
  | _ => exact .non
end
end DL
end

section
namespace DL
open PySem
end DL
end

section
namespace DL
open PySem
end DL
end

section
namespace DL
open PySem
section
variable {X : Exn → Ro → Prop} {r : Ro}
end
end DL
end

section
namespace DL
open PySem
section
variable {X : Exn → Ro → Prop} {r : Ro}
end
end DL
end

section
namespace DL
open PySem
section
variable {r : Ro}
section
variable {L : List String} {i j : Nat} {ms : String → M RV} {Q : SO → Ro → Prop} {r1 : Ro}
end
end
end DL
end

section
namespace DL
open PySem
section
variable {r : Ro}
end
end DL
end

section
namespace DL
open PySem
end DL
end

section
namespace DL
open PySem
end DL
end

section
namespace DL
open PySem
@[simp] theorem gNeS_self {x : Str} : gNeS [.fz (.str x), .fz (.str x)] = some (.val (.bool false)) := by
  unfold gNeS
  simp [Rs.data]
/-- small things: they can be shown -/
structure Tny (w k : Nat) (d : D) : Prop where
  lay : d.canLay0 = true
  dep : d.depth ≤ k
  sho : PyData.showable d = true
  lea : PyData.leavesShort 13 d = true
  wei : d.weight ≤ w
theorem Tny.sh {w k : Nat} {d : D} (h : Tny w k d) (hr : isRow d = true) (hk : k ≤ 40) (hw : w ≤ 2 ^ 20) : shOk d = true := by
  unfold shOk okE
  have a := h.dep
  have b := h.wei
  rw [hr, h.lay, h.sho, h.lea, decide_eq_true (show d.depth ≤ 40 by omega), decide_eq_true (show d.weight ≤ 2 ^ 20 by omega)]
  rfl
section
variable {X : Exn → Ro → Prop} {r : Ro}
end
end DL
end

section
namespace DL
open PySem
section
variable {X : Exn → Ro → Prop} {r : Ro}
@[simp, simp ↓] theorem putP_dT {i : Nat} {ds : List (List Ky × D)} {x : Sl} {Q : SO → Ro → Prop} : putP i (.new (.dT ds)) r Q (some x) ↔ putSl.pinnedB x = false ∧ setP r i (.own false (.dT ds)) (Q .nx) := Iff.rfl
end
end DL
end

section
namespace DL
open PySem
section
variable {X : Exn → Ro → Prop} {r : Ro}
end
end DL
end

section
namespace DL
open PySem
section
variable {X : Exn → Ro → Prop} {r : Ro}
theorem E_fDisp {a : AV} {d : D} {Q : RV → Ro → Prop} : E X (fDisp a d) r Q ↔ optP (keyAt r a) fun k => Q (.new (.dK [(k, d)])) r := by
  constructor
  · rintro ⟨o, r2, e, q⟩
    unfold fDisp at e
    split at e
    · rename_i k qk
      cases e
      exact ⟨k, qk, q⟩
    · cases e
  · rintro ⟨k, qk, q⟩
    refine ⟨.ok _, r, ?_, q⟩
    unfold fDisp
    rw [qk]
@[simp, simp ↓] theorem E_mDisp1 {mk : M AV} {mv : M RV} {Q : RV → Ro → Prop} : E X (mDisp1 mk mv) r Q ↔ E X mk r fun a r1 => E X mv r1 fun v r2 => optP v.data fun d => optP (keyAt r2 a) fun k => Q (.new (.dK [(k, d)])) r2 := by
  unfold mDisp1
  rw [E_bind]
  constructor
  · exact fun h => h.mono fun a r1 h => by
      rw [E_bind, E_mFz] at h
      exact h.mono fun v r2 ⟨d, e, q⟩ => ⟨d, e, E_fDisp.mp q⟩
  · exact fun h => h.mono fun a r1 h => by
      rw [E_bind, E_mFz]
      exact h.mono fun v r2 ⟨d, e, q⟩ => ⟨d, e, E_fDisp.mpr q⟩
end
end DL
end

section
namespace DL
open PySem
end DL
end

section
namespace DL
open PySem
end DL
end

section
namespace DL
open PySem
@[simp, simp ↓] theorem E_mE0 {X : Exn → Ro → Prop} {r : Ro} {Q : RV → Ro → Prop} : E X mE0 r Q ↔ Q (.val (.dict [])) r := E_ret
theorem gReprT_fz {d : D} (h : (shR d || shS d) = true) : gReprT [.fz d] = some (.val (.str (PyData.shown d))) := by
  show (if ((shR d || shS d) || (shL d || shG d)) = true then some (RV.val (.str (PyData.shown d))) else none) = _
  rw [if_pos (by rw [h, Bool.true_or])]
end DL
end

section
namespace DL
open PySem
end DL
end

section
namespace DL
open PySem
theorem gStrI_i {i : Int} (h : i.natAbs.log2 < 1920) : gStrI [.fz (.int i)] = some (.val (.str (Str.ofString (toString i)))) := by
  unfold gStrI
  simp only [if_pos h]
theorem gAddS_s {x y : Str} (h : x.length + y.length ≤ lineD) : gAddS [.fz (.str x), .fz (.str y)] = some (.val (.str (x ++ y))) := by
  show (if x.length + y.length ≤ lineD then some (RV.val (.str (x ++ y))) else none) = _
  rw [if_pos h]
theorem strsD_map (ys : List Str) : strsD (ys.map .str) = some ys := by
  induction ys with
  | nil => rfl
  | cons y ys ih => show (strsD (ys.map .str)).map _ = _; rw [ih]; rfl
theorem gJoin_l {s : Str} {ys : List Str} (h : (ys.map (·.length)).sum + ys.length * s.length ≤ lineD) : gJoin s [.fz (.list (ys.map .str))] = some (.val (.str (Str.join s ys))) := by
  show (match strsD (ys.map .str) with | some ys => if (ys.map fun y : Str => y.length).sum + ys.length * s.length ≤ lineD then some (RV.val (.str (Str.join s ys))) else none | none => none) = _
  rw [strsD_map]
  simp only [if_pos h]
theorem gJoin_o {s : Str} {ys : List Str} (h : (ys.map (·.length)).sum + ys.length * s.length ≤ lineD) : gJoin s [.ow (.lst (ys.map .str))] = some (.val (.str (Str.join s ys))) := gJoin_l h
end DL
end

section
namespace DL
open PySem
end DL
end

section
namespace DL
open PySem
section
variable {X : Exn → Ro → Prop} {r : Ro}
end
end DL
end

section
namespace DL
open PySem
def endTP (i : Nat) (Q : SO → Ro → Prop) (o : SO) (r : Ro) (t : Tok Q := .tok) : Prop := match o with
  | .nx => optP r[i]? fun z => putSl.pinnedB z = false ∧ setP r i .non (Q .nx)
  | .ret v => optP r[i]? fun z => putSl.pinnedB z = false ∧ setP r i .non (Q (.ret v))
  | _ => False
section
variable {L : List String} {i : Nat} {ms : String → S} {Q : SO → Ro → Prop} {r r1 : Ro}
@[simp, simp ↓] theorem endTP_nx : endTP i Q .nx r ↔ optP r[i]? fun z => putSl.pinnedB z = false ∧ setP r i .non (Q .nx) := Iff.rfl
@[simp, simp ↓] theorem endTP_ret {v : RV} : endTP i Q (.ret v) r ↔ optP r[i]? fun z => putSl.pinnedB z = false ∧ setP r i .non (Q (.ret v)) := Iff.rfl
variable {X : Exn → Ro → Prop} {tbl : List (Str × Sem)} {mm : List (M AV)} {K : RV → Ro → Prop}
end
end DL
end

section
namespace DL
open PySem
end DL
end

section
namespace Lw
open PySem DL
/-- place_of(web, end): slots 0:web 1:end -/
noncomputable def b_place_of_8c4c : S :=
    (sRet (mOp gIx [(oE (mOp gIx [(oE (mOp gIx [(oS 0), (oE (mC (.int 1)))])), (oE (mOp gDiv [(oS 1), (oE (mC (.int 2)))]))])), (oE (mOp gMod [(oS 1), (oE (mC (.int 2)))]))]))
noncomputable def sem_place_of_8c4c : Sem := defSem 2 2 b_place_of_8c4c
/-- _law_pen(_law_script): slots 0:_law_script 1:_law_cell -/
noncomputable def b_Lpen_3d2f : S :=
    (sRet (mOp gLst [(oE (mLc [1] (mRow (mSl (oS 0) none (some (oE (mC (.int 63)))))) (setN 1) mYes (mRd 1))), (oE (mC (.int 0))), (oE (mC (.int 0)))]))
noncomputable def sem_Lpen_3d2f : Sem := defSem 1 2 b_Lpen_3d2f
/-- _law_draw(_law_pen_here, _law_many): slots 0:_law_pen_here 1:_law_many 2:_law_at 3:_law_cell 4:_law_number 5:_law_digit -/
noncomputable def b_Ldraw_de5b : S :=
    (sSeq (sIf (mTst (mOp gGt [(oE (mOp gIx [(oS 0), (oE (mC (.int 2)))])), (oE (mC (.int 0)))])) (sSeq (sSet 5 (mOp gMod [(oE (mOp gIx [(oS 0), (oE (mC (.int 2)))])), (oS 1)]))
    (sSeq (sSub 0 (mOp gDiv [(oE (mOp gIx [(oS 0), (oE (mC (.int 2)))])), (oS 1)]) (oE (mC (.int 2))))
    (sRet (mRd 5)))) sNx)
    (sSeq (sSet 2 (mOp gIx [(oS 0), (oE (mC (.int 1)))]))
    (sSeq (sSub 0 (mOp gAdd [(oS 2), (oE (mC (.int 1)))]) (oE (mC (.int 1))))
    (sSeq (sSet 3 (mC (.int 11)))
    (sSeq (sIf (mTst (mOp gGt [(oE (mOp gLen [(oE (mOp gIx [(oS 0), (oE (mC (.int 0)))]))])), (oE (mC (.int 0)))])) (sSet 3 (mOp gIx [(oE (mOp gIx [(oS 0), (oE (mC (.int 0)))])), (oE (mOp gMod [(oS 2), (oE (mOp gLen [(oE (mOp gIx [(oS 0), (oE (mC (.int 0)))]))]))]))])) sNx)
    (sSeq (sIf (mAnd (mTst (mOp gLt [(oS 2), (oE (mOp gLen [(oE (mOp gIx [(oS 0), (oE (mC (.int 0)))]))]))])) (mTst (mOp gGe [(oE (mOp gAbs [(oS 3)])), (oE (mOp gPow [(oE (mC (.int 10))), (oE (mC (.int 18)))]))]))) (sSeq (sSub 0 (mOp gDiv [(oE (mOp gAbs [(oS 3)])), (oS 1)]) (oE (mC (.int 2))))
    (sRet (mOp gMod [(oE (mOp gAbs [(oS 3)])), (oS 1)]))) sNx)
    (sSeq (sSet 4 (mOp gMod [(oE (mOp gMul [(oE (mOp gAdd [(oE (mOp gAdd [(oE (mOp gMod [(oS 3), (oE (mC (.int 2147483647)))])), (oE (mOp gMul [(oE (mC (.int 69621))), (oS 2)]))])), (oE (mC (.int 13)))])), (oE (mC (.int 48271)))])), (oE (mC (.int 2147483629)))]))
    (sSeq (sSet 4 (mOp gMod [(oE (mOp gAdd [(oE (mOp gAdd [(oE (mOp gMul [(oS 4), (oS 4)])), (oE (mOp gMul [(oE (mC (.int 40692))), (oS 4)]))])), (oS 2)])), (oE (mC (.int 2147483587)))]))
    (sRet (mOp gMod [(oE (mOp gDiv [(oE (mOp gMod [(oE (mOp gMul [(oS 4), (oE (mC (.int 16807)))])), (oE (mC (.int 2147483563)))])), (oE (mC (.int 32)))])), (oS 1)]))))))))))
noncomputable def sem_Ldraw_de5b : Sem := defSem 2 6 b_Ldraw_de5b
/-- _law_web(_law_pen_here, _law_places, _law_ties): slots 0:_law_pen_here 1:_law_places 2:_law_ties 3:_law_many 4:_law_way 5:_law_count 6:_law_found 7:_law_k 8:_law_a 9:_law_b -/
noncomputable def b_Lweb_0350 : S :=
    (sSeq (sSet 3 (mOp gAdd [(oE (mC (.int 1))), (oE (mCall sem_Ldraw_de5b [(oS 0), (oS 1)]))]))
    (sSeq (sSet 4 (mCall sem_Ldraw_de5b [(oS 0), (oE (mC (.int 6)))]))
    (sSeq (sSet 5 (mCall sem_Ldraw_de5b [(oS 0), (oE (mOp gAdd [(oS 2), (oE (mC (.int 1)))]))]))
    (sSeq (sIf (mTst (mOp gEq [(oS 4), (oE (mC (.int 5)))])) (sSeq (sSet 3 (mRd 1))
    (sSet 5 (mRd 2))) sNx)
    (sSeq (sSet 6 (mOp gLst []))
    (sSeq (sFor (mOpL gRng1 [(oS 5)]) (setN 7) (sSeq (sPar 8 9 (mCall sem_Ldraw_de5b [(oS 0), (oS 3)]) (mCall sem_Ldraw_de5b [(oS 0), (oS 3)]))
    (sSeq (sIf (mTst (mOp gEq [(oS 4), (oE (mC (.int 1)))])) (sPar 8 9 (mOp gMod [(oS 7), (oS 3)]) (mOp gMod [(oE (mOp gAdd [(oS 7), (oE (mC (.int 1)))])), (oS 3)])) sNx)
    (sSeq (sIf (mTst (mOp gEq [(oS 4), (oE (mC (.int 2)))])) (sSet 8 (mC (.int 0))) sNx)
    (sSeq (sIf (mTst (mOp gEq [(oS 4), (oE (mC (.int 3)))])) (sSet 9 (mOp gAdd [(oE (mOp gMod [(oS 8), (oE (mC (.int 2)))])), (oE (mOp gMul [(oE (mOp gDiv [(oS 9), (oE (mC (.int 2)))])), (oE (mC (.int 2)))]))])) sNx)
    (sSeq (sIf (mAnd (mTst (mOp gEq [(oS 4), (oE (mC (.int 4)))])) (mTst (mOp gEq [(oE (mOp gMod [(oS 9), (oE (mC (.int 2)))])), (oE (mC (.int 0)))]))) (sSet 9 (mRd 8)) sNx)
    (sDrop (mMut gAppend 6 [(oE (mOp gTup [(oE (mRd 8)), (oE (mOp gMin2 [(oS 9), (oE (mOp gSub [(oS 3), (oE (mC (.int 1)))]))]))]))]))))))))
    (sRet (mOp gTup [(oE (mRd 3)), (oE (mOp gTuple [(oS 6)]))]))))))))
noncomputable def sem_Lweb_0350 : Sem := defSem 3 10 b_Lweb_0350
/-- _law_order(_law_pen_here, _law_web_here): slots 0:_law_pen_here 1:_law_web_here 2:_law_rows 3:_law_k 4:_law_row 5:_law_place -/
noncomputable def b_Lorder_8e8e : S :=
    (sSeq (sSet 2 (mLcL [5] (mOpL gRng1 [(oE (mOp gIx [(oS 1), (oE (mC (.int 0)))]))]) (setN 5) mYes (mOp gLst [])))
    (sSeq (sFor (mOpL gRng1 [(oE (mOp gMul [(oE (mC (.int 2))), (oE (mOp gLen [(oE (mOp gIx [(oS 1), (oE (mC (.int 1)))]))]))]))]) (setN 3) (sSeq (sAl 4 2 (oE (mOp gIx [(oE (mOp gIx [(oE (mOp gIx [(oS 1), (oE (mC (.int 1)))])), (oE (mOp gDiv [(oS 3), (oE (mC (.int 2)))]))])), (oE (mOp gMod [(oS 3), (oE (mC (.int 2)))]))])))
    (sDrop (mMut gInsert 4 [(oE (mOp gMin2 [(oE (mOp gLen [(oS 4)])), (oE (mOp gAdd [(oE (mC (.int 1))), (oE (mCall sem_Ldraw_de5b [(oS 0), (oE (mOp gMax2 [(oE (mC (.int 1))), (oE (mOp gLen [(oS 4)]))]))]))]))])), (oE (mRd 3))]))))
    (sRet (mOp gTuple [(oE (mLc [4] (mRow (mRd 2)) (setN 4) mYes (mOp gTuple [(oS 4)])))]))))
noncomputable def sem_Lorder_8e8e : Sem := defSem 2 6 b_Lorder_8e8e
/-- _law_whole(_law_found): slots 0:_law_found -/
noncomputable def b_Lwhole_6385 : S :=
    (sRet (mAndV (mIsi [.int] (oS 0)) (mNotV (mIsi [.bool] (oS 0)))))
noncomputable def sem_Lwhole_6385 : Sem := defSem 1 1 b_Lwhole_6385
/-- ends_of(web): slots 0:web -/
noncomputable def b_ends_of_168e : S :=
    (sRet (mOp gMul [(oE (mC (.int 2))), (oE (mOp gLen [(oE (mOp gIx [(oS 0), (oE (mC (.int 1)))]))]))]))
noncomputable def sem_ends_of_168e : Sem := defSem 1 1 b_ends_of_168e
/-- ends_at(web, place): slots 0:web 1:place 2:end -/
noncomputable def b_ends_at_2b9c : S :=
    (sRet (mLc [2] (mOpL gRng1 [(oE (mCall sem_ends_of_168e [(oS 0)]))]) (setN 2) (mTst (mOp gEq [(oE (mCall sem_place_of_8c4c [(oS 0), (oS 2)])), (oS 1)])) (mRd 2)))
noncomputable def sem_ends_at_2b9c : Sem := defSem 2 3 b_ends_at_2b9c
/-- _law_same(_law_found, _law_due): slots 0:_law_found 1:_law_due 2:_law_one 3:_law_other -/
noncomputable def b_Lsame_3cff (c_self : Sem) : S :=
    (sSeq (sIf (mTst (mIsi [.tuple] (oS 1))) (sSeq (sIf (mOr (mNot (mTst (mIsi [.tuple] (oS 0)))) (mTst (mOp gNe [(oE (mOp gLen [(oS 0)])), (oE (mOp gLen [(oS 1)]))]))) (sRet (mC (.bool false))) sNx)
    (sRet (mOp gAll [(oE (mLc [2, 3] (mOpL gZip [(oE (mRd 0)), (oE (mRd 1))]) (setT [(setN 2), (setN 3)]) mYes (mPeek c_self [(oS 2), (oS 3)])))]))) sNx)
    (sRet (mAndV (mCall sem_Lwhole_6385 [(oS 0)]) (mOp gEq [(oS 0), (oS 1)]))))
noncomputable def sem_Lsame_3cff : Nat → Sem
  | 0 => fun _ => none
  | k + 1 => defSem 2 4 (b_Lsame_3cff (sem_Lsame_3cff k))
end Lw
end

section
namespace Lw
open PySem DL
end Lw
end

section
namespace DL
open PySem
end DL
end

section
namespace DL
open PySem
end DL
end

section
namespace DL
open PySem
end DL
end

section
namespace DL
open PySem
end DL
end

section
namespace Lw
open PySem DL
end Lw
end

section
namespace Lw
open PySem DL
end Lw
end

section
namespace Lw
open PySem DL
/-- _law_text(_law_web_here, _law_order_here): slots 0:_law_web_here 1:_law_order_here 2:_law_lines 3:_law_place 4:_law_a 5:_law_b 6:_law_end -/
noncomputable def b_Ltext_bb53 : S :=
    (sSeq (sSet 2 (mOp gLst [(oE (mOp gAddS [(oE (mC (.str (Str.ofString "places ")))), (oE (mOp gStrI [(oE (mOp gIx [(oS 0), (oE (mC (.int 0)))]))]))]))]))
    (sSeq (sFor (mRow (mOp gIx [(oS 0), (oE (mC (.int 1)))])) (setT [(setN 4), (setN 5)]) (sDrop (mMut gAppend 2 [(oE (mOp gAddS [(oE (mOp gAddS [(oE (mOp gAddS [(oE (mC (.str (Str.ofString "tie ")))), (oE (mOp gStrI [(oS 4)]))])), (oE (mC (.str (Str.ofString " "))))])), (oE (mOp gStrI [(oS 5)]))]))])))
    (sSeq (sFor (mOpL gRng1 [(oE (mOp gIx [(oS 0), (oE (mC (.int 0)))]))]) (setN 3) (sIf (mTst (mOp gGt [(oE (mOp gLen [(oE (mOp gIx [(oS 1), (oS 3)]))])), (oE (mC (.int 0)))])) (sDrop (mMut gAppend 2 [(oE (mOp gAddS [(oE (mOp gAddS [(oE (mC (.str (Str.ofString "at ")))), (oE (mOp gStrI [(oS 3)]))])), (oE (mOp (gJoin (Str.ofString "")) [(oE (mLc [6] (mRow (mOp gIx [(oS 1), (oS 3)])) (setN 6) mYes (mOp gAddS [(oE (mC (.str (Str.ofString " ")))), (oE (mOp gStrI [(oS 6)]))])))]))]))])) sNx))
    (sRet (mOp (gJoin (Str.ofString "\n")) [(oS 2)])))))
noncomputable def sem_Ltext_bb53 : Sem := defSem 2 7 b_Ltext_bb53
end Lw
end

section
namespace DL
open PySem
end DL
end

section
namespace DL
open PySem
end DL
end

section
namespace DL
open PySem
end DL
end

section
namespace DL
open PySem
end DL
end

section
namespace DL
open PySem
end DL
end

section
namespace DL
open PySem
end DL
end

section
namespace DL
open PySem
/-- the instance in slot i -/
def objF (C : Str) (i : Nat) (r : Ro) : Option (Bool × List (Str × Fl)) := match r[i]? with
  | some (.own b (.obj C' fs)) => if C' = C then some (b, fs) else none
  | _ => none
/-- x.f, shared data -/
def mFld (C : Str) (i : Nat) (f : Str) : M RV := fun r => match objF C i r with
  | some (_, fs) => match fs.lookup f with
    | some (.d d) => some (.ok (.val d), r)
    | _ => none
  | none => none
def flRs : Fl → Option Rs
  | .d x => some (.fz x)
  | .lst ds => some (.ow (.lst ds))
  | .dK kvs => some (.ow (.dK kvs))
  | .ld _ => none
/-- g(x.f) -/
def mOpF (g : List Rs → Option RV) (C : Str) (i : Nat) (f : Str) : M RV := fun r => match objF C i r with
  | some (_, fs) => match fs.lookup f with
    | some x => match flRs x with
      | some y => (g [y]).map fun v => (.ok v, r)
      | none => none
    | none => none
  | none => none
def putFl (f : Str) (x : Fl) : List (Str × Fl) → List (Str × Fl)
  | [] => [(f, x)]
  | (g, y) :: r => if g = f then (g, x) :: r else (g, y) :: putFl f x r
def flOf : RV → Option Fl
  | .val d => some (.d d)
  | .new (.lst ds) => some (.lst ds)
  | .new (.dK kvs) => some (.dK kvs)
  | _ => none
/-- x.f = v -/
def stF (C : Str) (i : Nat) (f : Str) (v : RV) : S := fun r => match objF C i r with
  | some (b, fs) => match flOf v with
    | some x => if fs.length < 900 then some (.nx, r.set i (.own b (.obj C (putFl f x fs)))) else none
    | none => none
  | none => none
def sFldS (C : Str) (i : Nat) (f : Str) (m : M RV) : S := sEx m (stF C i f)
/-- m, what is owned by slot i out of reach -/
def mHide {α : Type} (i : Nat) (m : M α) : M α := fun r => match r[i]? with
  | some (.own b ct) => match m (r.set i .non) with
    | some (.ok a, r') => match r'[i]? with
      | some .non => if noAl r' i = true then some (.ok a, r'.set i (.own b ct)) else none
      | _ => none
    | _ => none
  | _ => none
/-- x.f.m(..), m changes the list -/
def mutF (g : List D → List D → Option (List D × D)) (C : Str) (i : Nat) (f : Str) (as : List AV) : M RV := fun r => match objF C i r with
  | some (b, fs) => match fs.lookup f, (looks2 r as).bind dataAll with
    | some (.lst ds), some es => (g ds es).map fun p => (.ok (.val p.2), r.set i (.own b (.obj C (putFl f (.lst p.1) fs))))
    | _, _ => none
  | none => none
/-- the list, the dict, that is the attribute f of the instance in slot i -/
def lstAtF (C : Str) (i : Nat) (f : Str) (r : Ro) : Bool := match objF C i r with
  | some (_, fs) => match fs.lookup f with
    | some (.lst _) => true
    | _ => false
  | none => false
def dctF (C : Str) (i : Nat) (f : Str) (r : Ro) : Option (List (Ky × D)) := match objF C i r with
  | some (_, fs) => match fs.lookup f with
    | some (.dK kvs) => some kvs
    | _ => none
  | none => none
def mMutF (g : List D → List D → Option (List D × D)) (C : Str) (i : Nat) (f : Str) (ms : List (M AV)) : M RV := fun r => if lstAtF C i f r = true then ((mHide i (oL ms)).bind (mutF g C i f)) r else none
/-- k in x.f -/
def fInF (neg : Bool) (C : Str) (i : Nat) (f : Str) (a : AV) : M RV := fun r => match dctF C i f r, keyAt r a with
  | some kvs, some k => some (.ok (.val (.bool (if neg then !(valD kvs k).isSome else (valD kvs k).isSome))), r)
  | _, _ => none
def mInF (neg : Bool) (C : Str) (i : Nat) (f : Str) (mk : M AV) : M RV := mk.bind (fInF neg C i f)
/-- x.f.get(k, d) -/
def fGetF (C : Str) (i : Nat) (f : Str) (a : AV) (d : D) : M RV := fun r => match dctF C i f r, keyAt r a with
  | some kvs, some k => some (.ok (.val ((valD kvs k).getD d)), r)
  | _, _ => none
def mGet2F (C : Str) (i : Nat) (f : Str) (mk : M AV) (md : M RV) : M RV := fun r => if (dctF C i f r).isSome = true then ((mHide i (mk.bind fun a => (mFz md).bind fun d => M.ret (a, d))).bind fun p => fGetF C i f p.1 p.2) r else none
/-- x.f[k] = v -/
def putF1 (C : Str) (i : Nat) (f : Str) (d : D) (a : AV) : S := fun r => match objF C i r, keyAt r a with
  | some (b, fs), some k => match fs.lookup f with
    | some (.dK kvs) => if kvs.length < lineD then some (.nx, r.set i (.own b (.obj C (putFl f (.dK (putD kvs k d)) fs)))) else none
    | _ => none
  | _, _ => none
def sPutF (C : Str) (i : Nat) (f : Str) (me : M RV) (mk : M AV) : S := sEx (mFz me) fun d => fun r => if (dctF C i f r).isSome = true then sEx (mHide i mk) (putF1 C i f d) r else none
/-- x.m(e, ..), m a method of the class -/
def mMeth (C : Str) (m : Str) (f : Sem) (i : Nat) (ms : List (M AV)) : M RV := fun r => match objF C i r with
  | some (_, fs) => if (fs.lookup m).isNone = true then mCall f (oS i :: ms) r else none
  | none => none
/-- C(): a new instance, and __init__ -/
def mMake (C : Str) (f : Sem) : M RV := fun r => match f [.ow (.obj C [])] with
  | some (.ok (.val .none), [.ow ct]) => some (.ok (.new ct), r)
  | _ => none
end DL
end

section
namespace DL
open PySem
def strAt (r : Ro) (a : AV) : Option Str := match (look2 r a).bind Rs.data with
  | some (.str x) => some x
  | _ => none
def fSplit (x : Str) (b : AV) : M RV := fun r => match strAt r b with
  | some y => if (y.length == 0) = false ∧ x.length + 2 ≤ lineD then some (.ok (.new (.lst ((Txt.split x y).map .str))), r) else none
  | none => none
def mSplit (mo me : M AV) : M RV := mo.bind fun a => fun r => match strAt r a with
  | some x => (me.bind (fSplit x)) r
  | none => none
def gIntS : List Rs → Option RV
  | [a] => match a.data with
    | some (.str x) => if x.length ≤ 640 then (intText? x).map fun n => .val (.int n) else none
    | _ => none
  | _ => none
def gIxS : List Rs → Option RV
  | [a, b] => match a.data, b.data with
    | some (.str z), some (.int i) => if z.length ≤ lineD then ((ixD z.cps.toList.length i).bind fun j => z.cps.toList[j]?).map fun c => .val (.str ⟨#[c]⟩) else none
    | _, _ => none
  | _ => none
def gSgn (neg : Bool) : List Rs → Option RV
  | [a, b] => match a.data, b.data with
    | some (.str ⟨⟨[c]⟩⟩), some (.str z) => some (.val (.bool (if neg then !decide (c ∈ z.cps.toList) else decide (c ∈ z.cps.toList))))
    | _, _ => none
  | _ => none
def chrs (x : Str) : List D := x.cps.toList.map fun c => .str ⟨#[c]⟩
def mRowS (m : M RV) : M (List D) := (mFz m).bind fun d => match d with
  | .str x => M.ret (chrs x)
  | _ => M.of none
end DL
end

section
namespace Lw
open PySem DL
/-- number_in(word): slots 0:word 1:sign -/
noncomputable def b_number_in_80b2 : S :=
    (sSeq (sIf (mOr (mNot (mTst (mChain gLt gLe (oE (mC (.int 0))) (oE (mOp gLen [(oS 0)])) (oE (mC (.int 60)))))) (mAnd (mTst (mOp gEq [(oE (mOp gIxS [(oS 0), (oE (mC (.int 0)))])), (oE (mC (.str (Str.ofString "0"))))])) (mTst (mOp gGt [(oE (mOp gLen [(oS 0)])), (oE (mC (.int 1)))])))) (sRet (mC .none)) sNx)
    (sSeq (sFor (mRowS (mRd 0)) (setN 1) (sIf (mTst (mOp (gSgn true) [(oS 1), (oE (mC (.str (Str.ofString "0123456789"))))])) (sRet (mC .none)) sNx))
    (sRet (mOp gIntS [(oS 0)]))))
noncomputable def sem_number_in_80b2 : Sem := defSem 1 2 b_number_in_80b2
/-- Reader.__init__(self): slots 0:self -/
noncomputable def b_Reader___init___5752 : S :=
    (sSeq (sFldS "Reader" 0 "many" (mC (.int 0)))
    (sSeq (sFldS "Reader" 0 "ties" (mOp gLst []))
    (sSeq (sFldS "Reader" 0 "rows" mNewK)
    (sFldS "Reader" 0 "last" (mOp gNeg [(oE (mC (.int 1)))])))))
noncomputable def sem_Reader___init___5752 : Sem := defSem 1 1 b_Reader___init___5752
/-- Reader.takes_places(self, numbers): slots 0:self 1:numbers -/
noncomputable def b_Reader_takes_places_9bde : S :=
    (sSeq (sIf (mOr (mTst (mOp gGt [(oE (mFld "Reader" 0 "many")), (oE (mC (.int 0)))])) (mOr (mTst (mOp gNe [(oE (mOp gLen [(oS 1)])), (oE (mC (.int 1)))])) (mNot (mTst (mChain gLe gLe (oE (mC (.int 1))) (oE (mOp gIx [(oS 1), (oE (mC (.int 0)))])) (oE (mC (.int 25)))))))) (sRet (mC (.bool false))) sNx)
    (sSeq (sFldS "Reader" 0 "many" (mOp gIx [(oS 1), (oE (mC (.int 0)))]))
    (sRet (mC (.bool true)))))
noncomputable def sem_Reader_takes_places_9bde : Sem := defSem 2 2 b_Reader_takes_places_9bde
/-- Reader.takes_tie(self, numbers): slots 0:self 1:numbers -/
noncomputable def b_Reader_takes_tie_7da9 : S :=
    (sSeq (sIf (mOr (mTst (mOp gGe [(oE (mFld "Reader" 0 "last")), (oE (mC (.int 0)))])) (mOr (mTst (mOp gEq [(oE (mOpF gLen "Reader" 0 "ties")), (oE (mC (.int 24)))])) (mOr (mTst (mOp gNe [(oE (mOp gLen [(oS 1)])), (oE (mC (.int 2)))])) (mTst (mOp gGe [(oE (mOp gMaxL [(oS 1)])), (oE (mFld "Reader" 0 "many"))]))))) (sRet (mC (.bool false))) sNx)
    (sSeq (sDrop (mMutF gAppend "Reader" 0 "ties" [(oE (mOp gTup [(oE (mOp gIx [(oS 1), (oE (mC (.int 0)))])), (oE (mOp gIx [(oS 1), (oE (mC (.int 1)))]))]))]))
    (sRet (mC (.bool true)))))
noncomputable def sem_Reader_takes_tie_7da9 : Sem := defSem 2 2 b_Reader_takes_tie_7da9
/-- Reader.web(self): slots 0:self -/
noncomputable def b_Reader_web_9457 : S :=
    (sRet (mOp gTup [(oE (mFld "Reader" 0 "many")), (oE (mOpF gTuple "Reader" 0 "ties"))]))
noncomputable def sem_Reader_web_9457 : Sem := defSem 1 1 b_Reader_web_9457
/-- Reader.takes_at(self, numbers): slots 0:self 1:numbers 2:ends -/
noncomputable def b_Reader_takes_at_5118 : S :=
    (sSeq (sIf (mOr (mTst (mOp gLt [(oE (mOp gLen [(oS 1)])), (oE (mC (.int 2)))])) (mNot (mTst (mChain gLt gLt (oE (mFld "Reader" 0 "last")) (oE (mOp gIx [(oS 1), (oE (mC (.int 0)))])) (oE (mFld "Reader" 0 "many")))))) (sRet (mC (.bool false))) sNx)
    (sSeq (sSet 2 (mSl (oS 1) (some (oE (mC (.int 1)))) none))
    (sSeq (sIf (mOr (mTst (mOp gNe [(oE (mOp gSort [(oS 2)])), (oE (mCall sem_ends_at_2b9c [(oE (mMeth "Reader" "web" sem_Reader_web_9457 0 [])), (oE (mOp gIx [(oS 1), (oE (mC (.int 0)))]))]))])) (mTst (mOp gNe [(oE (mOp gIx [(oS 2), (oE (mC (.int 0)))])), (oE (mOp gMinL [(oS 2)]))]))) (sRet (mC (.bool false))) sNx)
    (sSeq (sPutF "Reader" 0 "rows" (mOp gTuple [(oS 2)]) (oE (mOp gIx [(oS 1), (oE (mC (.int 0)))])))
    (sSeq (sFldS "Reader" 0 "last" (mOp gIx [(oS 1), (oE (mC (.int 0)))]))
    (sRet (mC (.bool true))))))))
noncomputable def sem_Reader_takes_at_5118 : Sem := defSem 2 3 b_Reader_takes_at_5118
/-- Reader.takes(self, line): slots 0:self 1:line 2:words 3:numbers 4:word -/
noncomputable def b_Reader_takes_c2ed : S :=
    (sSeq (sSet 2 (mSplit (oS 1) (oE (mC (.str (Str.ofString " "))))))
    (sSeq (sSet 3 (mLc [4] (mRow (mSl (oS 2) (some (oE (mC (.int 1)))) none)) (setN 4) mYes (mCall sem_number_in_80b2 [(oS 4)])))
    (sSeq (sIf (mTst (mOp (gInS false) [(oE (mC .none)), (oS 3)])) (sRet (mC (.bool false))) sNx)
    (sSeq (sIf (mTst (mOp gEq [(oE (mOp gIx [(oS 2), (oE (mC (.int 0)))])), (oE (mC (.str (Str.ofString "places"))))])) (sRet (mMeth "Reader" "takes_places" sem_Reader_takes_places_9bde 0 [(oS 3)])) sNx)
    (sSeq (sIf (mTst (mOp gEq [(oE (mOp gIx [(oS 2), (oE (mC (.int 0)))])), (oE (mC (.str (Str.ofString "tie"))))])) (sRet (mMeth "Reader" "takes_tie" sem_Reader_takes_tie_7da9 0 [(oS 3)])) sNx)
    (sRet (mAndV (mOp gEq [(oE (mOp gIx [(oS 2), (oE (mC (.int 0)))])), (oE (mC (.str (Str.ofString "at"))))]) (mMeth "Reader" "takes_at" sem_Reader_takes_at_5118 0 [(oS 3)]))))))))
noncomputable def sem_Reader_takes_c2ed : Sem := defSem 2 5 b_Reader_takes_c2ed
/-- Reader.is_done(self): slots 0:self 1:place -/
noncomputable def b_Reader_is_done_a1c1 : S :=
    (sRet (mOp gAll [(oE (mLc [1] (mOpL gRng1 [(oE (mFld "Reader" 0 "many"))]) (setN 1) mYes (mOrV (mInF false "Reader" 0 "rows" (oS 1)) (mOp gEq [(oE (mCall sem_ends_at_2b9c [(oE (mMeth "Reader" "web" sem_Reader_web_9457 0 [])), (oS 1)])), (oE (mOp gLst []))]))))]))
noncomputable def sem_Reader_is_done_a1c1 : Sem := defSem 1 2 b_Reader_is_done_a1c1
/-- Reader.floor(self): slots 0:self 1:place -/
noncomputable def b_Reader_floor_fb3f : S :=
    (sRet (mOp gTup [(oE (mMeth "Reader" "web" sem_Reader_web_9457 0 [])), (oE (mOp gTuple [(oE (mLc [1] (mOpL gRng1 [(oE (mFld "Reader" 0 "many"))]) (setN 1) mYes (mGet2F "Reader" 0 "rows" (oS 1) (mOp gTup []))))]))]))
noncomputable def sem_Reader_floor_fb3f : Sem := defSem 1 2 b_Reader_floor_fb3f
end Lw
end

section
namespace DL
open PySem
/-- raise C(m): the exception keeps the number as its row -/
def sRaiseR (cls : String) (m : M RV) : S := fun r => match m r with
  | some (.ok (.val (.int n)), r1) => some (.exc ⟨cls, some n⟩, r1)
  | some (.exc x, r1) => some (.exc x, r1)
  | _ => none
/-- try: b; except C as (slot i): the suite, by the class and the row; L: the classes that the clause takes -/
def sTryD (b : S) (L : List String) (i : Nat) (m0 : String → S) (m1 : String → Int → S) : S := fun r => match b r with
  | some (.exc x, r1) => match r1[i]? with
    | some y => if L.contains x.cls ∧ putSl.pinnedB y = false then endTry i ((match x.row with | none => m0 x.cls | some k => m1 x.cls k) (r1.set i .non)) else none
    | none => none
  | z => z
end DL
end

section
namespace DL
open PySem
end DL
end

section
namespace Lw
open PySem DL
/-- read(text): slots 0:text 1:reader 2:lines 3:k -/
noncomputable def b_read_4cf3R : S :=
    (sSeq (sIf (mNot (mTst (mIsi [.str] (oS 0)))) (sRaiseR "NoText" (mC (.int 1))) sNx)
    (sSeq (sSet 1 (mMake "Reader" sem_Reader___init___5752))
    (sSeq (sSet 2 (mSplit (oS 0) (oE (mC (.str (Str.ofString "\n"))))))
    (sSeq (sFor (mOpL gRng1 [(oE (mOp gLen [(oS 2)]))]) (setN 3) (sIf (mNot (mTst (mMeth "Reader" "takes" sem_Reader_takes_c2ed 1 [(oE (mOp gIx [(oS 2), (oS 3)]))]))) (sRaiseR "NoText" (mOp gAdd [(oS 3), (oE (mC (.int 1)))])) sNx))
    (sSeq (sIf (mNot (mTst (mMeth "Reader" "is_done" sem_Reader_is_done_a1c1 1 []))) (sRaiseR "NoText" (mOp gAdd [(oE (mOp gLen [(oS 2)])), (oE (mC (.int 1)))])) sNx)
    (sRet (mMeth "Reader" "floor" sem_Reader_floor_fb3f 1 [])))))))
noncomputable def sem_read_4cf3R : Sem := defSem 1 4 b_read_4cf3R
/-- _law_kinds, asked of a NoText -/
def b_KRNoText_4390 : S :=
    (sSeq (sSet 1 (mOp gLst [(oE (mC (.bool false))), (oE (mC (.bool false))), (oE (mC (.bool false))), (oE (mC (.bool false)))])) (sSeq (sSet 1 (mOp gAdd [(oS 1), (oE (mOp gLst [(oE (mC (.bool false))), (oE (mC (.bool false))), (oE (mC (.bool false))), (oE (mC (.bool false)))]))])) (sSeq (sSet 1 (mOp gAdd [(oS 1), (oE (mOp gLst [(oE (mC (.bool false))), (oE (mC (.bool false))), (oE (mC (.bool false))), (oE (mC (.bool false)))]))])) (sSeq (sSet 1 (mOp gAdd [(oS 1), (oE (mOp gLst [(oE (mC (.bool true))), (oE (mC (.bool false))), (oE (mC (.bool false)))]))])) (sRet (mLc [2] (mOpL gRng1 [(oE (mC (.int 15)))]) (setN 2) (mAnd (mTst (mOp gIx [(oS 1), (oS 2)])) (mTst (mC (.bool true)))) (mRd 2)))))))
def sem_KRNoText_4390 : Sem := defSem 0 3 b_KRNoText_4390
/-- _law_read(_law_text_here): slots 0:_law_text_here 1:_law_e -/
noncomputable def b_Lread_4f6eR : S :=
    (sSeq (sTryD (sRet (mCall sem_read_4cf3R [(oS 0)])) ["NoText"] 1 (fun n => sStuck) (fun n row => (sSeq (sIf (mTst (mOp gEq [(oE (mCall sem_KRNoText_4390 [])), (oE (mOp gLst [(oE (mC (.int 12)))]))])) (sRet (mOp gLst [(oE (mC (.int row)))])) sNx) sNx)))
    (sRet (mOp gLst [])))
noncomputable def sem_Lread_4f6eR : Sem := defSem 1 2 b_Lread_4f6eR
end Lw
end

section
namespace DL
open PySem
/-- C(m) -/
def mMkX (C : Str) (m : M RV) : M RV := fun r => match m r with
  | some (.ok (.val (.int n)), r1) => some (.ok (.new (.exn C n)), r1)
  | some (.exc x, r1) => some (.exc x, r1)
  | _ => none
/-- isinstance(x, T), by x's class -/
def mIsX (i : Nat) (tbl : List (Str × Bool)) : M RV := fun r => match r[i]? with
  | some (.own _ (.exn C _)) => (tbl.lookup C).map fun b => (.ok (.val (.bool b)), r)
  | _ => none
/-- x.row -/
def mRowX (i : Nat) (C : Str) : M RV := fun r => match r[i]? with
  | some (.own _ (.exn C' n)) => if C' = C then some (.ok (.val (.int n)), r) else none
  | _ => none
end DL
end

section
namespace Lw
open PySem DL
/-- _law_kinds(_law_e): slots 0:_law_e 1:_law_found 2:_law_k -/
noncomputable def b_Lkinds_aa30 : S :=
    (sSeq (sSet 1 (mOp gLst [(oE (mIsX 0 [("NoText", false)])), (oE (mIsX 0 [("NoText", false)])), (oE (mIsX 0 [("NoText", false)])), (oE (mIsX 0 [("NoText", false)]))]))
    (sSeq (sSet 1 (mOp gAdd [(oS 1), (oE (mOp gLst [(oE (mIsX 0 [("NoText", false)])), (oE (mIsX 0 [("NoText", false)])), (oE (mIsX 0 [("NoText", false)])), (oE (mIsX 0 [("NoText", false)]))]))]))
    (sSeq (sSet 1 (mOp gAdd [(oS 1), (oE (mOp gLst [(oE (mIsX 0 [("NoText", false)])), (oE (mIsX 0 [("NoText", false)])), (oE (mIsX 0 [("NoText", false)])), (oE (mIsX 0 [("NoText", false)]))]))]))
    (sSeq (sSet 1 (mOp gAdd [(oS 1), (oE (mOp gLst [(oE (mIsX 0 [("NoText", true)])), (oE (mIsX 0 [("NoText", false)])), (oE (mIsX 0 [("NoText", false)]))]))]))
    (sRet (mLc [2] (mOpL gRng1 [(oE (mC (.int 15)))]) (setN 2) (mAnd (mTst (mOp gIx [(oS 1), (oS 2)])) (mTst (mIsX 0 [("NoText", true)]))) (mRd 2)))))))
noncomputable def sem_Lkinds_aa30 : Sem := defSem 1 3 b_Lkinds_aa30
/-- law(_law_script): slots 0:_law_script 1:_law_pen_here 2:_law_web_here 3:_law_floor 4:_law_text_here 5:_law_some 6:_law_k 7:_law_number 8:_law_made 9:_law_thing 10:_law_kept 11:_law_found -/
noncomputable def b_law_9135R : S :=
    (sSeq (sSet 1 (mCall sem_Lpen_3d2f [(oS 0)]))
    (sSeq (sSet 2 (mCall sem_Lweb_0350 [(oS 1), (oE (mC (.int 25))), (oE (mC (.int 24)))]))
    (sSeq (sSet 3 (mOp gTup [(oE (mRd 2)), (oE (mCall sem_Lorder_8e8e [(oS 1), (oS 2)]))]))
    (sSeq (sSet 4 (mCall sem_Ltext_bb53 [(oE (mOp gIx [(oS 3), (oE (mC (.int 0)))])), (oE (mOp gIx [(oS 3), (oE (mC (.int 1)))]))]))
    (sSeq (sSet 5 (mOp gLst [(oE (mC .none)), (oE (mC (.bool true))), (oE (mC (.bool false))), (oE (mC (.int 0))), (oE (mOp gNeg [(oE (mC (.int 1)))])), (oE (mCall sem_Ldraw_de5b [(oS 1), (oE (mOp gPow [(oE (mC (.int 10))), (oE (mC (.int 60)))]))])), (oE (mOp gLst [(oE (mRd 4))])), (oE (mOp gTup [(oE (mRd 4))])), (oE (mSplit (oS 4) (oE (mC (.str (Str.ofString "\n")))))), (oE mE0), (oE (mFzK (mDisp1 (oS 4) (mRd 4))))]))
    (sSeq (sFor (mOpL gRng1 [(oE (mOp gAdd [(oE (mC (.int 1))), (oE (mCall sem_Ldraw_de5b [(oS 1), (oE (mC (.int 12)))]))]))]) (setN 6) (sSeq (sSet 9 (mOp gIx [(oE (mOp gAdd [(oS 5), (oE (mOp gLst [(oE (mRd 3)), (oE (mOp gLst [])), (oE (mOp gTup []))]))])), (oE (mCall sem_Ldraw_de5b [(oS 1), (oE (mC (.int 14)))]))]))
    (sSeq (sSet 10 (mOp gReprT [(oS 9)]))
    (sSeq (sSet 11 (mCall sem_Lread_4f6eR [(oS 9)]))
    (sIf (mOr (mTst (mOp gNe [(oS 11), (oE (mOp gLst [(oE (mC (.int 1)))]))])) (mOr (mNot (mTst (mCall sem_Lwhole_6385 [(oE (mOp gIx [(oS 11), (oE (mC (.int 0)))]))]))) (mOr (mNot (mTst (mPeek (sem_Lsame_3cff 6) [(oE (mCall sem_read_4cf3R [(oS 4)])), (oS 3)]))) (mTst (mOp gNeS [(oE (mOp gReprT [(oS 9)])), (oS 10)]))))) (sRet (mC (.bool false))) sNx)))))
    (sSeq (sSet 7 (mOp gAdd [(oE (mC (.int 1))), (oE (mCall sem_Ldraw_de5b [(oS 1), (oE (mC (.int 2000)))]))]))
    (sSeq (sSet 8 (mMkX "NoText" (mRd 7)))
    (sRet (mAndV (mOp gEq [(oE (mCall sem_Lkinds_aa30 [(oS 8)])), (oE (mOp gLst [(oE (mC (.int 12)))]))]) (mAndV (mIsX 8 [("NoText", true)]) (mOp gEq [(oE (mRowX 8 "NoText")), (oS 7)]))))))))))))
noncomputable def sem_law_9135R : Sem := defSem 1 12 b_law_9135R
end Lw
end

section
namespace Lw
open PySem DL
end Lw
end

section
namespace Lw
open PySem DL
end Lw
end

section
namespace Lw
theorem least {P : Nat → Prop} (h : ∃ n, P n) : ∃ n, P n ∧ ∀ m, m < n → ¬ P m := by
  obtain ⟨n, hn⟩ := h
  induction n using Nat.strongRecOn with
  | ind n ih =>
    by_cases h : ∃ m, m < n ∧ P m
    · obtain ⟨m, h1, h2⟩ := h
      exact ih m h1 h2
    · exact ⟨n, hn, fun m h1 h2 => h ⟨m, h1, h2⟩⟩
section
variable {α : Type}
def itr (f : α → α) : Nat → α → α
  | 0, x => x
  | n + 1, x => f (itr f n x)
theorem itr_add (f : α → α) (a b : Nat) (x : α) : itr f (a + b) x = itr f a (itr f b x) := by
  induction a with
  | zero => rw [Nat.zero_add]; rfl
  | succ a ih => rw [Nat.succ_add]; show f _ = f _; rw [ih]
/-- a step that keeps within P, one to one, and comes back within B steps -/
structure Stp (f : α → α) (P : α → Prop) (B : Nat) : Prop where
  cl : ∀ x, P x → P (f x)
  inj : ∀ x y, P x → P y → f x = f y → x = y
  ret : ∀ x, P x → ∃ n, 1 ≤ n ∧ n ≤ B ∧ itr f n x = x
open Classical in
noncomputable def per (f : α → α) (x : α) : Nat := if h : ∃ n, 1 ≤ n ∧ itr f n x = x then Classical.choose (least h) else 0
noncomputable def orb (f : α → α) (x : α) : List α := (List.range (per f x)).map fun n => itr f n x
theorem per_spec {f : α → α} {x : α} (h : ∃ n, 1 ≤ n ∧ itr f n x = x) : 1 ≤ per f x ∧ itr f (per f x) x = x ∧ ∀ m, 1 ≤ m → m < per f x → itr f m x ≠ x := by
  unfold per
  rw [dif_pos h]
  obtain ⟨⟨h1, h2⟩, h3⟩ := Classical.choose_spec (least h)
  exact ⟨h1, h2, fun m a b c => h3 m b ⟨a, c⟩⟩
variable {f : α → α} {P : α → Prop} {B : Nat}
theorem Stp.itr (s : Stp f P B) {x : α} (hx : P x) : ∀ n, P (itr f n x)
  | 0 => hx
  | n + 1 => s.cl _ (s.itr hx n)
theorem Stp.per (s : Stp f P B) {x : α} (hx : P x) : 1 ≤ per f x ∧ Lw.itr f (Lw.per f x) x = x ∧ ∀ m, 1 ≤ m → m < Lw.per f x → Lw.itr f m x ≠ x := by
  obtain ⟨n, h1, _, h2⟩ := s.ret x hx
  exact per_spec ⟨n, h1, h2⟩
theorem Stp.itr_inj (s : Stp f P B) {x y : α} (hx : P x) (hy : P y) : ∀ n, Lw.itr f n x = Lw.itr f n y → x = y
  | 0, h => h
  | n + 1, h => s.itr_inj hx hy n (s.inj _ _ (s.itr hx n) (s.itr hy n) h)
/-- the places of a round are unlike -/
theorem Stp.apart (s : Stp f P B) {x : α} (hx : P x) {i j : Nat} (hij : i < j) (hj : j < Lw.per f x) : Lw.itr f i x ≠ Lw.itr f j x := by
  intro h
  obtain ⟨_, _, h4⟩ := s.per hx
  have e : j = i + (j - i) := by omega
  rw [e, itr_add] at h
  exact h4 (j - i) (by omega) (by omega) (s.itr_inj hx (s.itr hx _) i h).symm
theorem itr_mul {x : α} {p : Nat} (h : itr f p x = x) : ∀ k, itr f (p * k) x = x
  | 0 => rfl
  | k + 1 => by rw [Nat.mul_succ, itr_add, h, itr_mul h k]
theorem Stp.mod (s : Stp f P B) {x : α} (hx : P x) (n : Nat) : Lw.itr f n x = Lw.itr f (n % Lw.per f x) x := by
  obtain ⟨h1, h2, _⟩ := s.per hx
  have e : n = n % Lw.per f x + Lw.per f x * (n / Lw.per f x) := (Nat.mod_add_div n _).symm
  conv => lhs; rw [e, itr_add, itr_mul h2]
theorem orb_len (x : α) : (orb f x).length = per f x := by simp [orb]
theorem orb_get {x : α} {n : Nat} (h : n < per f x) : (orb f x)[n]? = some (itr f n x) := by
  unfold orb
  rw [List.getElem?_map, List.getElem?_range h]
  rfl
theorem mem_orb (s : Stp f P B) {x y : α} (hx : P x) : y ∈ orb f x ↔ ∃ n, itr f n x = y := by
  unfold orb
  rw [List.mem_map]
  constructor
  · rintro ⟨n, _, h⟩; exact ⟨n, h⟩
  · rintro ⟨n, h⟩
    refine ⟨n % per f x, List.mem_range.mpr (Nat.mod_lt _ (s.per hx).1), ?_⟩
    rw [← s.mod hx, h]
theorem orb_nodup (s : Stp f P B) {x : α} (hx : P x) : (orb f x).Nodup := by
  unfold orb
  rw [List.nodup_iff_pairwise_ne, List.pairwise_map]
  refine List.Pairwise.imp_of_mem (R := (· < ·)) (fun {a b} ha hb hab => ?_) List.pairwise_lt_range
  exact s.apart hx hab (List.mem_range.mp hb)
theorem orb_P (s : Stp f P B) {x y : α} (hx : P x) (h : y ∈ orb f x) : P y := by
  obtain ⟨n, rfl⟩ := (mem_orb s hx).mp h
  exact s.itr hx n
theorem orb_symm (s : Stp f P B) {x y : α} (hx : P x) (h : y ∈ orb f x) : x ∈ orb f y := by
  have hy := orb_P s hx h
  obtain ⟨n, rfl⟩ := (mem_orb s hx).mp h
  obtain ⟨h1, h2, _⟩ := s.per hx
  refine (mem_orb s hy).mpr ⟨per f x * (n + 1) - n, ?_⟩
  have : n ≤ per f x * (n + 1) := Nat.le_trans (Nat.le_succ n) (Nat.le_mul_of_pos_left _ h1)
  rw [← itr_add, Nat.sub_add_cancel this, itr_mul h2]
theorem orb_trans (s : Stp f P B) {x y z : α} (hx : P x) (h1 : y ∈ orb f x) (h2 : z ∈ orb f y) : z ∈ orb f x := by
  obtain ⟨n, rfl⟩ := (mem_orb s hx).mp h1
  obtain ⟨m, rfl⟩ := (mem_orb s (orb_P s hx h1)).mp h2
  exact (mem_orb s hx).mpr ⟨m + n, itr_add ..⟩
theorem orb_disj (s : Stp f P B) {x y z : α} (hx : P x) (hy : P y) (h1 : z ∈ orb f x) (h2 : z ∈ orb f y) : y ∈ orb f x := orb_trans s hx h1 (orb_symm s hy h2)
end
/-- pigeonhole: a one-to-one step on [0, N) comes back -/
theorem nodup_len : ∀ (n : Nat) (l : List Nat), l.Nodup → (∀ x ∈ l, x < n) → l.length ≤ n
  | 0, [], _, _ => Nat.le_refl _
  | 0, x :: l, _, h => absurd (h x (by simp)) (by omega)
  | n + 1, l, hn, h => by
    have h1 := nodup_len n (l.filter (· ≠ n)) (hn.filter _) (fun x hx => by
      obtain ⟨h1, h2⟩ := List.mem_filter.mp hx
      have := h x h1
      simp at h2
      omega)
    have h2 : l.length = (l.filter (· ≠ n)).length + (l.filter (fun x => !decide (x ≠ n))).length := by
      rw [← List.countP_eq_length_filter, ← List.countP_eq_length_filter]
      have h := List.length_eq_countP_add_countP (fun x => decide (x ≠ n)) (l := l)
      rw [h]
      congr 1
      exact List.countP_congr fun x _ => by by_cases hx : x = n <;> simp [hx]
    have h3 : (l.filter (fun x => !decide (x ≠ n))).length ≤ 1 := by
      have e : l.filter (fun x => !decide (x ≠ n)) = l.filter (· == n) := List.filter_congr fun x _ => by by_cases hx : x = n <;> simp [hx]
      rw [e, ← List.countP_eq_length_filter]
      exact List.nodup_iff_count.mp hn n
    omega
theorem stp_of {α : Type} {f : α → α} {P : α → Prop} {N : Nat} (code : α → Nat) (hc : ∀ x, P x → code x < N) (hi : ∀ x y, P x → P y → code x = code y → x = y) (cl : ∀ x, P x → P (f x)) (inj : ∀ x y, P x → P y → f x = f y → x = y) : Stp f P N := by
  have it : ∀ x, P x → ∀ n, P (itr f n x) := fun x hx n => by
    induction n with
    | zero => exact hx
    | succ n ih => exact cl _ ih
  have itinj : ∀ x y, P x → P y → ∀ n, itr f n x = itr f n y → x = y := fun x y hx hy n => by
    induction n with
    | zero => exact id
    | succ n ih => exact fun h => ih (inj _ _ (it x hx n) (it y hy n) h)
  refine ⟨cl, inj, fun x hx => ?_⟩
  apply Classical.byContradiction
  intro hno
  have hl := nodup_len N ((List.range (N + 1)).map fun n => code (itr f n x)) (by
    rw [List.nodup_iff_pairwise_ne, List.pairwise_map]
    refine List.Pairwise.imp_of_mem (R := (· < ·)) (fun {a b} ha hb hab h => ?_) List.pairwise_lt_range
    have e := hi _ _ (it x hx a) (it x hx b) h
    have e2 : b = a + (b - a) := by omega
    rw [e2, itr_add] at e
    have := itinj _ _ hx (it x hx _) a e
    exact hno ⟨b - a, by omega, by have := List.mem_range.mp hb; omega, this.symm⟩) (fun y hy => by
    obtain ⟨n, _, rfl⟩ := List.mem_map.mp hy
    exact hc _ (it x hx n))
  simp at hl
  omega
end Lw
end

section
namespace Lw
open Classical in
noncomputable def cnt (N : Nat) (P : Nat → Prop) : Nat := ((List.range N).filter fun x => decide (P x)).length
/-- classes that become one -/
structure Eqv (N : Nat) (R : Nat → Nat → Prop) : Prop where
  rf : ∀ x, x < N → R x x
  sy : ∀ x y, x < N → y < N → R x y → R y x
  tr : ∀ x y z, x < N → y < N → z < N → R x y → R y z → R x z
theorem Eqv.low {N : Nat} {R : Nat → Nat → Prop} (e : Eqv N R) {a : Nat} (ha : a < N) : ∃ l, l < N ∧ R a l ∧ ∀ y, y < N → R a y → l ≤ y := by
  obtain ⟨l, ⟨h1, h2⟩, h3⟩ := least (P := fun l => l < N ∧ R a l) ⟨a, ha, e.rf a ha⟩
  refine ⟨l, h1, h2, fun y hy hr => ?_⟩
  by_cases h : y < l
  · exact absurd ⟨hy, hr⟩ (h3 y h)
  · omega
def SOr (f : Nat → Nat) (x y : Nat) : Prop := ∃ n, itr f n x = y
section
variable {f : Nat → Nat} {N B : Nat}
def swp (a b x : Nat) : Nat := if x = a then b else if x = b then a else x
theorem swp_a (a b : Nat) : swp a b a = b := by simp [swp]
theorem swp_b (a b : Nat) : swp a b b = a := by unfold swp; split <;> simp_all
theorem swp_o {a b x : Nat} (h : x ≠ a) (h2 : x ≠ b) : swp a b x = x := by simp [swp, h, h2]
theorem swp_swp (a b x : Nat) : swp a b (swp a b x) = x := by
  by_cases h : x = a
  · subst h; rw [swp_a, swp_b]
  · by_cases h2 : x = b
    · subst h2; rw [swp_b, swp_a]
    · rw [swp_o h h2, swp_o h h2]
theorem swp_lt {a b x N : Nat} (ha : a < N) (hb : b < N) (hx : x < N) : swp a b x < N := by
  unfold swp
  split
  · exact hb
  · split
    · exact ha
    · exact hx
/-- two things exchanged ahead of the step -/
def fsw (f : Nat → Nat) (a b : Nat) : Nat → Nat := fun x => f (swp a b x)
theorem fsw_stp (s : Stp f (· < N) B) {a b : Nat} (ha : a < N) (hb : b < N) : Stp (fsw f a b) (· < N) N := by
  refine stp_of id (fun x h => h) (fun x y _ _ h => h) (fun x hx => s.cl _ (swp_lt ha hb hx)) fun x y hx hy h => ?_
  have := s.inj _ _ (swp_lt ha hb hx) (swp_lt ha hb hy) h
  have := congrArg (swp a b) this
  rwa [swp_swp, swp_swp] at this
end
end Lw
end

section
namespace Lw
def pt2 (x : Nat) : Nat := swp (2 * (x / 2)) (2 * (x / 2) + 1) x
/-- the step, the first k ties gone along -/
def fK (σ : Nat → Nat) (k : Nat) (x : Nat) : Nat := σ (if x / 2 < k then pt2 x else x)
theorem fK_zero (σ : Nat → Nat) : fK σ 0 = σ := by
  funext x
  simp [fK]
theorem fK_succ (σ : Nat → Nat) (k : Nat) : fK σ (k + 1) = fsw (fK σ k) (2 * k) (2 * k + 1) := by
  funext x
  show σ _ = fK σ k (swp (2 * k) (2 * k + 1) x)
  by_cases h1 : x = 2 * k
  · subst h1
    rw [swp_a, if_pos (by omega)]
    unfold fK pt2
    rw [if_neg (by omega), show 2 * (2 * k / 2) = 2 * k by omega, swp_a]
  · by_cases h2 : x = 2 * k + 1
    · subst h2
      rw [swp_b, if_pos (by omega)]
      unfold fK pt2
      rw [if_neg (by omega), show 2 * ((2 * k + 1) / 2) = 2 * k by omega, swp_b]
    · rw [swp_o h1 h2]
      unfold fK
      by_cases h3 : x / 2 < k
      · rw [if_pos h3, if_pos (by omega)]
      · rw [if_neg h3, if_neg (by omega)]
/-- places that hang together by the first k ties -/
structure Hang (n m : Nat) (pl : Nat → Nat) (R : Nat → Nat → Nat → Prop) : Prop where
  eqv : ∀ k, k ≤ n → Eqv m (R k)
  zero : ∀ x y, x < m → y < m → (R 0 x y ↔ x = y)
  succ : ∀ k, k < n → ∀ x y, x < m → y < m → (R (k + 1) x y ↔ R k x y ∨ (R k x (pl (2 * k)) ∧ R k (pl (2 * k + 1)) y) ∨ (R k x (pl (2 * k + 1)) ∧ R k (pl (2 * k)) y))
section
variable {σ pl : Nat → Nat} {n m B : Nat} {R : Nat → Nat → Nat → Prop} {A : Nat → Prop}
theorem pt2_lt {x : Nat} (h : x < 2 * n) : pt2 x < 2 * n := swp_lt (by omega) (by omega) h
theorem fK_stp (s : Stp σ (· < 2 * n) B) : ∀ k, k ≤ n → Stp (fK σ k) (· < 2 * n) (max B (2 * n))
  | 0, _ => by
    rw [fK_zero]
    exact ⟨s.cl, s.inj, fun x hx => by obtain ⟨i, h1, h2, h3⟩ := s.ret x hx; exact ⟨i, h1, by omega, h3⟩⟩
  | k + 1, h => by
    rw [fK_succ]
    have := fsw_stp (fK_stp s k (by omega)) (a := 2 * k) (b := 2 * k + 1) (by omega) (by omega)
    exact ⟨this.cl, this.inj, fun x hx => by obtain ⟨i, h1, h2, h3⟩ := this.ret x hx; exact ⟨i, h1, by omega, h3⟩⟩
theorem Hang.tie (h : Hang n m pl R) (hp : ∀ x, x < 2 * n → pl x < m) : ∀ k, k ≤ n → ∀ j, j < k → R k (pl (2 * j)) (pl (2 * j + 1))
  | k + 1, hk, j, hj => by
    have h0 := hp (2 * j) (by omega)
    have h1 := hp (2 * j + 1) (by omega)
    rw [h.succ k (by omega) _ _ h0 h1]
    by_cases e : j = k
    · subst e
      exact .inr (.inl ⟨(h.eqv j (by omega)).rf _ h0, (h.eqv j (by omega)).rf _ h1⟩)
    · exact .inl (h.tie hp k (by omega) j (by omega))
/-- a step keeps within what hangs together -/
theorem Hang.step (h : Hang n m pl R) (s : Stp σ (· < 2 * n) B) (hp : ∀ x, x < 2 * n → pl x < m) (hs : ∀ x, x < 2 * n → pl (σ x) = pl x) {k : Nat} (hk : k ≤ n) {x : Nat} (hx : x < 2 * n) : R k (pl x) (pl (fK σ k x)) := by
  have e := h.eqv k hk
  unfold fK
  split
  · rename_i hlt
    rw [hs _ (pt2_lt hx)]
    have ht := h.tie hp k hk (x / 2) hlt
    have h0 := hp (2 * (x / 2)) (by omega)
    have h1 := hp (2 * (x / 2) + 1) (by omega)
    unfold pt2
    by_cases e1 : x = 2 * (x / 2)
    · have : swp (2 * (x / 2)) (2 * (x / 2) + 1) x = 2 * (x / 2) + 1 := by unfold swp; rw [if_pos e1]
      rw [this]
      rw [← e1] at ht ⊢
      exact ht
    · have e2 : x = 2 * (x / 2) + 1 := by omega
      have : swp (2 * (x / 2)) (2 * (x / 2) + 1) x = 2 * (x / 2) := by unfold swp; rw [if_neg e1, if_pos e2]
      rw [this]
      have ht := e.sy _ _ h0 h1 ht
      rw [← e2] at ht
      exact ht
  · rw [hs x hx]
    exact e.rf _ (hp x hx)
theorem Hang.so (h : Hang n m pl R) (s : Stp σ (· < 2 * n) B) (hp : ∀ x, x < 2 * n → pl x < m) (hs : ∀ x, x < 2 * n → pl (σ x) = pl x) {k : Nat} (hk : k ≤ n) {x y : Nat} (hx : x < 2 * n) (hxy : SOr (fK σ k) x y) : R k (pl x) (pl y) := by
  have e := h.eqv k hk
  have s' := fK_stp s k hk
  obtain ⟨i, rfl⟩ := hxy
  induction i with
  | zero => exact e.rf _ (hp x hx)
  | succ i ih => exact e.tr _ _ _ (hp _ hx) (hp _ (s'.itr hx i)) (hp _ (s'.itr hx (i + 1))) ih (h.step s hp hs hk (s'.itr hx i))
end
end Lw
end

section
namespace Lw
open PySem DL
/-- a pen: cells, a count, digits -/
structure Pen (n : Nat) (p : List D) : Prop where
  ex : ∃ (cs : List Int) (a g : Int), p = [.list (cs.map .int), .int a, .int g] ∧ 0 ≤ a ∧ a ≤ n ∧ 0 ≤ g ∧ cs.length ≤ 63
theorem ixP_map {cs : List Int} {i : Int} (h0 : 0 ≤ i) (h1 : i < cs.length) : ∃ c, ixP (cs.map .int) i = some (.int c) := by
  refine ⟨cs[i.toNat]'(by omega), ixP_pos h0 ?_⟩
  rw [List.getElem?_map, List.getElem?_eq_getElem (by omega)]
  rfl
set_option maxHeartbeats 1000000 in
theorem draw_ok {n : Nat} {p : List D} {m : Int} (hp : Pen n p) (hn : n ≤ 1000000) (hm : 1 ≤ m ∧ m ≤ 1000000) :
    Oks sem_Ldraw_de5b [.ow (.lst p), .fz (.int m)] fun v ys => ∃ r p', v = .ok (.val (.int r)) ∧ ys = [.ow (.lst p'), .fz (.int m)] ∧ 0 ≤ r ∧ r < m ∧ Pen (n + 1) p' := by
  obtain ⟨cs, a, g, rfl, ha, hn2, hg, hcs⟩ := hp.ex
  refine oks_def rfl ?_
  have m0 : 0 < m := by omega
  have pow : (10 : Int) ^ 18 = 1000000000000000000 := by decide
  have mm : SmD m := smD_of (by omega)
  have r0 : ∀ x : Int, 0 ≤ x % m := fun x => Int.emod_nonneg _ (by omega)
  have r1 : ∀ x : Int, x % m < m := fun x => Int.emod_lt_of_pos _ m0
  by_cases hg0 : 0 < g
  · simp [b_Ldraw_de5b, hg0, -getElem?_pos, -getElem?_neg, List.getElem?_cons_zero, List.getElem?_cons_succ, m0, mm, r0, r1]
    exact ⟨cs, a, g / m, rfl, ha, by omega, Int.ediv_nonneg hg (by omega), hcs⟩
  · have s1 : SmM 69621 a := smM_of (by omega) (by omega)
    have s2 : ∀ c : Int, SmM (c % 2147483647 + 69621 * a + 13) 48271 := fun c => smM_of (by omega) (by omega)
    have key : ∀ x : Int, 0 ≤ x % 2147483629 ∧ x % 2147483629 < 2147483629 := fun x => by omega
    have s3 : ∀ x : Int, SmM (x % 2147483629) (x % 2147483629) := fun c => smM_of (by omega) (by omega)
    have s4 : ∀ x : Int, SmM 40692 (x % 2147483629) := fun c => smM_of (by omega) (by omega)
    have s5 : ∀ x : Int, SmM (x % 2147483587) 16807 := fun c => smM_of (by omega) (by omega)
    have s6 : SmD 32 := smD_of (by omega)
    have pen1 : ∀ g', 0 ≤ g' → Pen (n + 1) [.list (cs.map .int), .int (a + 1), .int g'] := fun g' h => ⟨cs, a + 1, g', rfl, by omega, by omega, h, hcs⟩
    by_cases hl : 0 < cs.length
    · obtain ⟨c, hc⟩ := ixP_map (cs := cs) (i := a % cs.length) (Int.emod_nonneg _ (by omega)) (Int.emod_lt_of_pos _ (by omega))
      by_cases h2 : a < cs.length ∧ 10 ^ 18 ≤ (if c < 0 then -c else c)
      · have h2' := h2.2
        rw [pow] at h2'
        simp [b_Ldraw_de5b, hg0, -getElem?_pos, -getElem?_neg, List.getElem?_cons_zero, List.getElem?_cons_succ, m0, mm, r0, r1, s1, s2, s3, s4, s5, s6, hl, hc, h2.1, h2', pow]
        exact pen1 _ (Int.ediv_nonneg (by omega) (by omega))
      · by_cases h3 : a < cs.length
        · have h2' : ¬ 1000000000000000000 ≤ (if c < 0 then -c else c) := fun h => h2 ⟨h3, by rw [pow]; exact h⟩
          simp [b_Ldraw_de5b, hg0, -getElem?_pos, -getElem?_neg, List.getElem?_cons_zero, List.getElem?_cons_succ, m0, mm, r0, r1, s1, s2, s3, s4, s5, s6, hl, hc, h3, h2', pow]
          exact pen1 _ hg
        · simp [b_Ldraw_de5b, hg0, -getElem?_pos, -getElem?_neg, List.getElem?_cons_zero, List.getElem?_cons_succ, m0, mm, r0, r1, s1, s2, s3, s4, s5, s6, hl, hc, h3]
          exact pen1 _ hg
    · have hl2 : cs.length = 0 := by omega
      have h3 : ¬ a < 0 := by omega
      have s2' : SmM (11 + 69621 * a + 13) 48271 := smM_of (by omega) (by omega)
      simp [b_Ldraw_de5b, hg0, -getElem?_pos, -getElem?_neg, List.getElem?_cons_zero, List.getElem?_cons_succ, m0, mm, r0, r1, s1, s2, s2', s3, s4, s5, s6, hl, hl2, h3]
      exact pen1 _ hg
end Lw
end

section
namespace Lw
open PySem DL
theorem cut63 {ns : List Int} (h : ns.length ≤ 63) : cutD ns none (some 63) = ns := by
  have : sIxD ns.length ns.length (some 63) = ns.length := by
    unfold sIxD
    simp
    omega
  unfold cutD
  rw [this]
  simp [sIxD]
theorem pen_ok {ns : List Int} (h : ns.length ≤ 63) : Oks sem_Lpen_3d2f [.fz (.dict ((.none, .none) :: ns.map fun n => (.int n, .none)))] fun v ys => ∃ p, v = .ok (.new (.lst p)) ∧ ys = [.fz (.dict ((.none, .none) :: ns.map fun n => (.int n, .none)))] ∧ Pen 0 p := by
  refine oks_def rfl ?_
  simp [b_Lpen_3d2f, -getElem?_pos, -getElem?_neg, List.getElem?_cons_zero, List.getElem?_cons_succ, cut63 h, anyPin]
  refine lcK_map id (fun d _ => ?_) (by simp [lineD]; omega) ?_
  · simp [-getElem?_pos, -getElem?_neg, List.getElem?_cons_zero, List.getElem?_cons_succ]
  · simp
    exact ⟨ns, 0, 0, rfl, by omega, by omega, by omega, h⟩
end Lw
end

section
namespace Lw
open PySem DL
def tieD (t : Int × Int) : D := .tuple [.int t.1, .int t.2]
def webD (m : Int) (ts : List (Int × Int)) : D := .tuple [.int m, .tuple (ts.map tieD)]
def TiesOk (m : Int) (ts : List (Int × Int)) : Prop := ∀ t ∈ ts, (0 ≤ t.1 ∧ t.1 < m) ∧ 0 ≤ t.2 ∧ t.2 < m
structure Web (N T : Nat) (m : Int) (ts : List (Int × Int)) : Prop where
  m1 : 1 ≤ m
  mN : m ≤ N
  len : ts.length ≤ T
  ok : TiesOk m ts
/-- the slots in the loop of _law_web -/
def WebI (n : Nat) (pl ti m way ct : Int) (k : Nat) (r : Ro) : Prop := ∃ p ts x7 x8 x9, r = [.own true (.lst p), .frz false (.int pl), .frz false (.int ti), .frz false (.int m), .frz false (.int way), .frz false (.int ct), .own false (.lst (ts.map tieD)), x7, x8, x9]
  ∧ Pen (n + 2 * k) p ∧ ts.length = k ∧ TiesOk m ts ∧ Fr x7 ∧ Fr x8 ∧ Fr x9
theorem TiesOk.snoc {m : Int} {ts : List (Int × Int)} {t : Int × Int} (h : TiesOk m ts) (ht : (0 ≤ t.1 ∧ t.1 < m) ∧ 0 ≤ t.2 ∧ t.2 < m) : TiesOk m (ts ++ [t]) := fun u hu => by
  rcases List.mem_append.mp hu with h1 | h1
  · exact h u h1
  · rw [List.mem_singleton.mp h1]; exact ht
noncomputable def webBody : S := sSeq (sPar 8 9 (mCall sem_Ldraw_de5b [(oS 0), (oS 3)]) (mCall sem_Ldraw_de5b [(oS 0), (oS 3)]))
    (sSeq (sIf (mTst (mOp gEq [(oS 4), (oE (mC (.int 1)))])) (sPar 8 9 (mOp gMod [(oS 7), (oS 3)]) (mOp gMod [(oE (mOp gAdd [(oS 7), (oE (mC (.int 1)))])), (oS 3)])) sNx)
    (sSeq (sIf (mTst (mOp gEq [(oS 4), (oE (mC (.int 2)))])) (sSet 8 (mC (.int 0))) sNx)
    (sSeq (sIf (mTst (mOp gEq [(oS 4), (oE (mC (.int 3)))])) (sSet 9 (mOp gAdd [(oE (mOp gMod [(oS 8), (oE (mC (.int 2)))])), (oE (mOp gMul [(oE (mOp gDiv [(oS 9), (oE (mC (.int 2)))])), (oE (mC (.int 2)))]))])) sNx)
    (sSeq (sIf (mAnd (mTst (mOp gEq [(oS 4), (oE (mC (.int 4)))])) (mTst (mOp gEq [(oE (mOp gMod [(oS 9), (oE (mC (.int 2)))])), (oE (mC (.int 0)))]))) (sSet 9 (mRd 8)) sNx)
    (sDrop (mMut gAppend 6 [(oE (mOp gTup [(oE (mRd 8)), (oE (mOp gMin2 [(oS 9), (oE (mOp gSub [(oS 3), (oE (mC (.int 1)))]))]))]))]))))))
set_option maxHeartbeats 4000000 in
theorem web_body {n : Nat} {pl ti m way ct : Int} {Q : SO → Ro → Prop} (hn : n ≤ 100000) (hm : 1 ≤ m ∧ m ≤ 1000) (hw : 0 ≤ way ∧ way < 6) {k : Nat} {r : Ro} (hk : k ≤ 1000) (h : WebI n pl ti m way ct k r) :
    W (setN 7 (.int k)) r (nxP webBody (loopP (WebI n pl ti m way ct (k + 1)) Q)) := by
  obtain ⟨p, ts, x7, x8, x9, rfl, hp, hl, ht, h7, h8, h9⟩ := h
  obtain ⟨o1, y1, e1, a, p1, rfl, rfl, a0, a1, hp1⟩ := draw_ok hp (by omega) (m := m) (by omega)
  obtain ⟨o2, y2, e2, b, p2, rfl, rfl, b0, b1, hp2⟩ := draw_ok hp1 (by omega) (m := m) (by omega)
  have hp3 : Pen (n + 2 * (k + 1)) p2 := hp2
  have m0 : 0 < m := by omega
  have lb : (lineD : Nat) = 16777216 := rfl
  have hk2 : ts.length < lineD := by unfold lineD; omega
  have fin : ∀ a b : Int, 0 ≤ a → a < m → 0 ≤ b → WebI n pl ti m way ct (k + 1) [.own true (.lst p2), .frz false (.int pl), .frz false (.int ti), .frz false (.int m), .frz false (.int way), .frz false (.int ct), .own false (.lst (ts.map tieD ++ [.tuple [.int a, .int (if m - 1 < b then m - 1 else b)]])), .frz false (.int k), .frz false (.int a), .frz false (.int b)] := fun a b h1 h2 h3 =>
    ⟨p2, ts ++ [(a, if m - 1 < b then m - 1 else b)], .frz false (.int k), .frz false (.int a), .frz false (.int b), by simp [tieD], hp3, by simp [hl], ht.snoc ⟨⟨h1, h2⟩, by dsimp only; split <;> omega, by dsimp only; split <;> omega⟩, .frz, .frz, .frz⟩
  have s1 : SmD 2 := smD_of (by omega)
  have s2 : SmM (b / 2) 2 := smM_of (by omega) (by omega)
  have ways : way = 0 ∨ way = 1 ∨ way = 2 ∨ way = 3 ∨ way = 4 ∨ way = 5 := by omega
  rcases ways with rfl | rfl | rfl | rfl | rfl | rfl
  · simp [webBody, -getElem?_pos, -getElem?_neg, List.getElem?_cons_zero, List.getElem?_cons_succ, h7.pin, h8.pin, h9.pin, h7.al, h8.al, h9.al, e1, e2, m0, hk2]
    exact fin a b a0 a1 b0
  · simp [webBody, -getElem?_pos, -getElem?_neg, List.getElem?_cons_zero, List.getElem?_cons_succ, h7.pin, h8.pin, h9.pin, h7.al, h8.al, h9.al, e1, e2, m0, hk2]
    exact fin (k % m) ((k + 1) % m) (Int.emod_nonneg _ (by omega)) (Int.emod_lt_of_pos _ m0) (Int.emod_nonneg _ (by omega))
  · simp [webBody, -getElem?_pos, -getElem?_neg, List.getElem?_cons_zero, List.getElem?_cons_succ, h7.pin, h8.pin, h9.pin, h7.al, h8.al, h9.al, e1, e2, m0, hk2]
    exact fin 0 b (by omega) (by omega) b0
  · simp [webBody, -getElem?_pos, -getElem?_neg, List.getElem?_cons_zero, List.getElem?_cons_succ, h7.pin, h8.pin, h9.pin, h7.al, h8.al, h9.al, e1, e2, m0, hk2, s1, s2]
    exact fin a (a % 2 + b / 2 * 2) a0 a1 (by omega)
  · by_cases hb : b % 2 = 0
    · simp [webBody, -getElem?_pos, -getElem?_neg, List.getElem?_cons_zero, List.getElem?_cons_succ, h7.pin, h8.pin, h9.pin, h7.al, h8.al, h9.al, e1, e2, m0, hk2, hb]
      exact fin a a a0 a1 a0
    · simp [webBody, -getElem?_pos, -getElem?_neg, List.getElem?_cons_zero, List.getElem?_cons_succ, h7.pin, h8.pin, h9.pin, h7.al, h8.al, h9.al, e1, e2, m0, hk2, hb]
      exact fin a b a0 a1 b0
  · simp [webBody, -getElem?_pos, -getElem?_neg, List.getElem?_cons_zero, List.getElem?_cons_succ, h7.pin, h8.pin, h9.pin, h7.al, h8.al, h9.al, e1, e2, m0, hk2]
    exact fin a b a0 a1 b0
end Lw
end

section
namespace Lw
open PySem DL
theorem web_tail {n : Nat} {pl ti m way ct : Int} {x7 x8 x9 : Sl} {p p0 : List D} (hn : n ≤ 90000) (hm : 1 ≤ m ∧ m ≤ 1000) (hw : 0 ≤ way ∧ way < 6) (hc : 0 ≤ ct ∧ ct ≤ 1000) (hp : Pen n p) (h7 : Fr x7) (h8 : Fr x8) (h9 : Fr x9)
    {P : EO RV → List Rs → Prop} (hP : ∀ ts p', ts.length = ct → TiesOk m ts → Pen (n + 2 * ct.toNat) p' → P (.ok (.val (webD m ts))) [.ow (.lst p'), .fz (.int pl), .fz (.int ti)]) :
    W (sFor (mOpL gRng1 [(oS 5)]) (setN 7) webBody) [.own true (.lst p), .frz false (.int pl), .frz false (.int ti), .frz false (.int m), .frz false (.int way), .frz false (.int ct), .own false (.lst []), x7, x8, x9]
      (thenP (sRet (mOp gTup [(oE (mRd 3)), (oE (mOp gTuple [(oS 6)]))])) (retP [.ow (.lst p0), .fz (.int pl), .fz (.int ti)] P)) := by
  have o1 : -4611686018427387904 ≤ ct := by omega
  have o2 : ct < 4611686018427387904 := by omega
  simp [-getElem?_pos, -getElem?_neg, List.getElem?_cons_zero, List.getElem?_cons_succ, o1, o2]
  refine forS_inv (WebI n pl ti m way ct) (rng 0 ct) 0 _ ?_ (fun k d r hd h => ?_) (fun r h => ?_)
  · exact ⟨p, [], x7, x8, x9, rfl, hp, rfl, fun _ h => (nomatch h), h7, h8, h9⟩
  · obtain ⟨rfl, hk⟩ := rng0_get hd
    rw [Nat.zero_add] at h ⊢
    exact web_body (by omega) hm hw (by omega) h
  · obtain ⟨p', ts, x7, x8, x9, rfl, hp, hl, ht, h7, h8, h9⟩ := h
    rw [rng0_len] at hl hp
    rw [Nat.zero_add] at hl hp
    have := hP ts p' (by omega) ht hp
    simp [-getElem?_pos, -getElem?_neg, List.getElem?_cons_zero, List.getElem?_cons_succ]
    exact this
set_option maxHeartbeats 4000000 in
theorem web_ok {n : Nat} {pl ti : Int} {p : List D} (hp : Pen n p) (hn : n ≤ 80000) (hpl : 1 ≤ pl ∧ pl ≤ 1000) (hti : 0 ≤ ti ∧ ti ≤ 999) :
    Oks sem_Lweb_0350 [.ow (.lst p), .fz (.int pl), .fz (.int ti)] fun v ys => ∃ m ts p', v = .ok (.val (webD m ts)) ∧ ys = [.ow (.lst p'), .fz (.int pl), .fz (.int ti)] ∧ Web pl.toNat ti.toNat m ts ∧ Pen (n + 2003) p' := by
  obtain ⟨o1, y1, e1, a, p1, rfl, rfl, a0, a1, hp1⟩ := draw_ok hp (by omega) (m := pl) (by omega)
  obtain ⟨o2, y2, e2, w, p2, rfl, rfl, w0, w1, hp2⟩ := draw_ok hp1 (by omega) (m := 6) (by omega)
  obtain ⟨o3, y3, e3, c, p3, rfl, rfl, c0, c1, hp3⟩ := draw_ok hp2 (by omega) (m := ti + 1) (by omega)
  have mono : ∀ {a b : Nat} {q : List D}, a ≤ b → Pen a q → Pen b q := fun h ⟨cs, a, g, e, h1, h2, h3, h4⟩ => ⟨cs, a, g, e, h1, by omega, h3, h4⟩
  refine oks_def rfl ?_
  by_cases hw : w = 5
  · subst hw
    simp [b_Lweb_0350, -W_for, -getElem?_pos, -getElem?_neg, List.getElem?_cons_zero, List.getElem?_cons_succ, e1, e2, e3]
    refine web_tail (n := n + 3) (by omega) (by omega) (by omega) (by omega) hp3 .non .non .non fun ts p' h1 h2 h3 => ?_
    exact ⟨pl, ts, rfl, p', rfl, ⟨by omega, by omega, by omega, h2⟩, mono (by omega) h3⟩
  · simp [b_Lweb_0350, -W_for, -getElem?_pos, -getElem?_neg, List.getElem?_cons_zero, List.getElem?_cons_succ, e1, e2, e3, hw]
    refine web_tail (n := n + 3) (by omega) (by omega) (by omega) (by omega) hp3 .non .non .non fun ts p' h1 h2 h3 => ?_
    exact ⟨1 + a, ts, rfl, p', rfl, ⟨by omega, by omega, by omega, h2⟩, mono (by omega) h3⟩
end Lw
end

section
namespace Lw
open PySem DL
def rowsD (rows : List (List Int)) : List (List D) := rows.map fun row => row.map .int
def orderD (rows : List (List Int)) : D := .tuple (rows.map fun row => .tuple (row.map .int))
/-- the place of an end -/
def plc (ts : List (Int × Int)) (e : Nat) : Int := match ts[e / 2]? with
  | some t => if e % 2 = 0 then t.1 else t.2
  | none => -1
/-- a row as far as the ends below k go -/
structure RowN (ts : List (Int × Int)) (k q : Nat) (row : List Int) : Prop where
  nd : row.Nodup
  mem : ∀ e : Int, e ∈ row ↔ 0 ≤ e ∧ e < k ∧ plc ts e.toNat = q
  hd : ∀ x xs, row = x :: xs → ∀ y ∈ xs, x < y
  len : row.length ≤ k
structure OrdN (m : Int) (ts : List (Int × Int)) (k : Nat) (rows : List (List Int)) : Prop where
  len : rows.length = m.toNat
  row : ∀ q row, rows[q]? = some row → RowN ts k q row
theorem RowN.ins {ts : List (Int × Int)} {k q i : Nat} {row : List Int} (h : RowN ts k q row) (hq : plc ts k = q) (hi : i ≤ row.length) (h1 : row ≠ [] → 1 ≤ i) : RowN ts (k + 1) q (row.take i ++ [(k : Int)] ++ row.drop i) := by
  have hperm : (row.take i ++ [(k : Int)] ++ row.drop i).Perm ((k : Int) :: row) := by
    refine (List.Perm.append_right _ (List.perm_append_comm)).trans ?_
    simp
  have hk : (k : Int) ∉ row := fun hm => by have := ((h.mem k).mp hm).2.1; omega
  refine ⟨hperm.nodup_iff.mpr (List.nodup_cons.mpr ⟨hk, h.nd⟩), fun e => ?_, fun x xs e y hy => ?_, ?_⟩
  · rw [hperm.mem_iff, List.mem_cons, h.mem]
    constructor
    · rintro (rfl | ⟨a, b, c⟩)
      · exact ⟨by omega, by omega, by simpa using hq⟩
      · exact ⟨a, by omega, c⟩
    · rintro ⟨a, b, c⟩
      by_cases he : e = k
      · exact .inl he
      · exact .inr ⟨a, by omega, c⟩
  · cases row with
    | nil =>
      simp at e
      rw [e.2] at hy
      cases hy
    | cons z zs =>
      obtain ⟨i, rfl⟩ : ∃ j, i = j + 1 := ⟨i - 1, by have := h1 (by simp); omega⟩
      simp at e
      obtain ⟨rfl, rfl⟩ := e
      rcases List.mem_append.mp hy with hy | hy
      · exact h.hd z zs rfl y (List.mem_of_mem_take hy)
      · rcases List.mem_cons.mp hy with rfl | hy
        · exact ((h.mem z).mp (List.mem_cons_self ..)).2.1
        · exact h.hd z zs rfl y (List.mem_of_mem_drop hy)
  · have := hperm.length_eq
    rw [this]
    simp
    exact h.len
theorem RowN.other {ts : List (Int × Int)} {k q : Nat} {row : List Int} (h : RowN ts k q row) (hq : plc ts k ≠ q) : RowN ts (k + 1) q row := by
  refine ⟨h.nd, fun e => ?_, h.hd, Nat.le_succ_of_le h.len⟩
  rw [h.mem]
  constructor
  · rintro ⟨a, b, c⟩
    exact ⟨a, by omega, c⟩
  · rintro ⟨a, b, c⟩
    by_cases he : e = k
    · subst he; exact absurd (by simpa using c) hq
    · exact ⟨a, by omega, c⟩
theorem OrdN.ins {m : Int} {ts : List (Int × Int)} {k q i : Nat} {rows : List (List Int)} {row : List Int} (h : OrdN m ts k rows) (e : rows[q]? = some row) (hq : plc ts k = q) (hi : i ≤ row.length) (h1 : row ≠ [] → 1 ≤ i) : OrdN m ts (k + 1) (rows.set q (row.take i ++ [(k : Int)] ++ row.drop i)) := by
  refine ⟨by rw [List.length_set]; exact h.len, fun q2 row2 e2 => ?_⟩
  by_cases hqq : q = q2
  · subst hqq
    rw [List.getElem?_set_self (List.getElem?_eq_some_iff.mp e).1] at e2
    cases e2
    exact (h.row _ _ e).ins hq hi h1
  · rw [List.getElem?_set_ne hqq] at e2
    exact (h.row _ _ e2).other (by rw [hq]; exact_mod_cast hqq)
def OrdI (n : Nat) (m : Int) (ts : List (Int × Int)) (k : Nat) (r : Ro) : Prop := ∃ p rows x3 x4 x5, r = [.own true (.lst p), .frz false (webD m ts), .own false (.ll (rowsD rows)), x3, x4, x5]
  ∧ Pen (n + k) p ∧ OrdN m ts k rows ∧ Fr x3 ∧ putSl.pinnedB x4 = false ∧ alB 0 x4 = true ∧ Fr x5
noncomputable def ordBody : S := (sSeq (sAl 4 2 (oE (mOp gIx [(oE (mOp gIx [(oE (mOp gIx [(oS 1), (oE (mC (.int 1)))])), (oE (mOp gDiv [(oS 3), (oE (mC (.int 2)))]))])), (oE (mOp gMod [(oS 3), (oE (mC (.int 2)))]))])))
    (sDrop (mMut gInsert 4 [(oE (mOp gMin2 [(oE (mOp gLen [(oS 4)])), (oE (mOp gAdd [(oE (mC (.int 1))), (oE (mCall sem_Ldraw_de5b [(oS 0), (oE (mOp gMax2 [(oE (mC (.int 1))), (oE (mOp gLen [(oS 4)]))]))]))]))])), (oE (mRd 3))])))
theorem plc_get {ts : List (Int × Int)} {k : Nat} (hk : k < 2 * ts.length) : ∃ t, t ∈ ts ∧ ixP (ts.map tieD) ((k : Int) / 2) = some (tieD t) ∧ ixP [.int t.1, .int t.2] ((k : Int) % 2) = some (.int (plc ts k)) ∧ (plc ts k = t.1 ∨ plc ts k = t.2) := by
  have hk2 : k / 2 < ts.length := by omega
  have hg : ts[k / 2]? = some ts[k / 2] := List.getElem?_eq_getElem hk2
  refine ⟨ts[k / 2], List.getElem_mem hk2, ?_, ?_, ?_⟩
  · have := ixP_nat (xs := ts.map tieD) (k := k / 2) (d := tieD ts[k / 2]) (by rw [List.getElem?_map, hg]; rfl)
    exact_mod_cast this
  · unfold plc
    rw [hg]
    by_cases h : k % 2 = 0
    · rw [show (k : Int) % 2 = 0 by omega]
      simp [h]
    · rw [show (k : Int) % 2 = 1 by omega]
      simp [h]
  · unfold plc
    rw [hg]
    dsimp only
    split
    · exact .inl rfl
    · exact .inr rfl
set_option maxHeartbeats 4000000 in
theorem ord_body {n k : Nat} {m : Int} {ts : List (Int × Int)} {r : Ro} {Q : SO → Ro → Prop} (hn : n + k ≤ 900000) (hk1 : k ≤ 100000) (hk : k < 2 * ts.length) (ht : TiesOk m ts) (h : OrdI n m ts k r) :
    W (setN 3 (.int k)) r (nxP ordBody (loopP (OrdI n m ts (k + 1)) Q)) := by
  obtain ⟨p, rows, x3, x4, x5, rfl, hp, ho, h3, h4, h4a, h5⟩ := h
  obtain ⟨t, ht1, hi1, hi2, hpl⟩ := plc_get hk
  have htk := ht t ht1
  obtain ⟨q, hq⟩ : ∃ q : Nat, plc ts k = q := ⟨(plc ts k).toNat, by omega⟩
  have hqm : q < rows.length := by rw [ho.len]; omega
  have hix : ixD (rowsD rows).length (q : Int) = some q := ixD_nat (by simpa [rowsD] using hqm)
  obtain ⟨row, hrow⟩ : ∃ row, rows[q]? = some row := ⟨_, List.getElem?_eq_getElem hqm⟩
  have hrow2 : (rowsD rows)[q]? = some (row.map .int) := by unfold rowsD; rw [List.getElem?_map, hrow]; rfl
  have hlen := (ho.row q row hrow).len
  obtain ⟨mx, hmx, mx1, mx2⟩ : ∃ mx : Int, gMax2 [.fz (.int 1), .fz (.int (row.length : Int))] = some (.val (.int mx)) ∧ 1 ≤ mx ∧ mx ≤ 1000000 := ⟨_, gMax2_ii, by split <;> omega, by split <;> omega⟩
  obtain ⟨o1, y1, e1, d, p1, rfl, rfl, d0, d1, hp1⟩ := draw_ok hp (by omega) (m := mx) (by omega)
  obtain ⟨i, hmn, i0, i1, i2⟩ : ∃ i : Nat, gMin2 [.fz (.int (row.length : Int)), .fz (.int (1 + d))] = some (.val (.int (i : Int))) ∧ i ≤ row.length ∧ (row ≠ [] → 1 ≤ i) ∧ (i : Int) < 9223372036854775808 := by
    refine ⟨(if 1 + d < row.length then 1 + d else (row.length : Int)).toNat, ?_, ?_, ?_, ?_⟩
    · rw [gMin2_ii, Int.toNat_of_nonneg]
      split <;> omega
    · split <;> omega
    · intro hne
      have : row.length ≠ 0 := by simpa using hne
      split <;> omega
    · split <;> omega
  have lb : (lineD : Nat) = 16777216 := rfl
  have hl2 : row.length < lineD := by omega
  have s1 : SmD 2 := smD_of (by omega)
  have fin : OrdI n m ts (k + 1) [.own true (.lst p1), .frz false (webD m ts), .own false (.ll ((rowsD rows).set q (List.take i (row.map .int) ++ .int k :: List.drop i (row.map .int)))), .frz false (.int k), .al 2 q, x5] :=
    ⟨p1, rows.set q (row.take i ++ [(k : Int)] ++ row.drop i), .frz false (.int k), .al 2 q, x5, by simp [rowsD, List.map_set, List.map_take, List.map_drop], hp1, ho.ins hrow hq i0 i1, .frz, rfl, rfl, h5⟩
  unfold ordBody
  simp [-getElem?_pos, -getElem?_neg, List.getElem?_cons_zero, List.getElem?_cons_succ, h3.pin]
  refine W_al (b := false) (rows := rowsD rows) rfl ?_
  simp [-getElem?_pos, -getElem?_neg, List.getElem?_cons_zero, List.getElem?_cons_succ, webD, hi1, tieD, hi2, hq, hix, h4, s1]
  simp [-getElem?_pos, -getElem?_neg, List.getElem?_cons_zero, List.getElem?_cons_succ, hrow2, hmx, hmn, e1, -gMax2_ii, -gMin2_ii, h3.al, h4a, h5.al, hl2, i2]
  exact fin
end Lw
end

section
namespace Lw
open PySem DL
theorem ordN0 {m : Int} {ts : List (Int × Int)} (hm : 0 ≤ m) : OrdN m ts 0 (List.replicate m.toNat []) := by
  refine ⟨by simp, fun q row e => ?_⟩
  obtain ⟨h1, h2⟩ := List.getElem?_eq_some_iff.mp e
  simp at h2
  subst h2
  exact ⟨List.nodup_nil, fun e => (by simp; omega), fun x xs h => (by cases h), by simp⟩
theorem rng_map_nil {m : Int} : (rng 0 m).map (fun _ => ([] : List D)) = rowsD (List.replicate m.toNat []) := by
  simp [rng, rowsD]
  apply List.ext_getElem <;> simp
def tupOf : D → D
  | .list xs => .tuple xs
  | d => d
set_option maxHeartbeats 4000000 in
theorem order_ok {n : Nat} {m : Int} {ts : List (Int × Int)} {p : List D} (hp : Pen n p) (hn : n ≤ 800000) (hm : 1 ≤ m ∧ m ≤ 10000) (hl : ts.length ≤ 10000) (ht : TiesOk m ts) :
    Oks sem_Lorder_8e8e [.ow (.lst p), .fz (webD m ts)] fun v ys => ∃ rows p', v = .ok (.val (orderD rows)) ∧ ys = [.ow (.lst p'), .fz (webD m ts)] ∧ OrdN m ts (2 * ts.length) rows ∧ Pen (n + 2 * ts.length) p' := by
  refine oks_def rfl ?_
  have o1 : -4611686018427387904 ≤ m := by omega
  have o2 : m < 4611686018427387904 := by omega
  have lb : (lineD : Nat) = 16777216 := rfl
  have s1 : SmM 2 (ts.length : Int) := smM_of (by omega) (by omega)
  have o3 : -4611686018427387904 ≤ 2 * (ts.length : Int) := by omega
  have o4 : 2 * (ts.length : Int) < 4611686018427387904 := by omega
  simp [b_Lorder_8e8e, -getElem?_pos, -getElem?_neg, List.getElem?_cons_zero, List.getElem?_cons_succ, webD, o1, o2, anyPin]
  refine lcLK_map (f := fun _ => []) (fun d _ => ?_) ?_ ?_
  · simp [-getElem?_pos, -getElem?_neg, List.getElem?_cons_zero, List.getElem?_cons_succ]
  · rw [rng0_len]; simp; omega
  simp [-getElem?_pos, -getElem?_neg, List.getElem?_cons_zero, List.getElem?_cons_succ, s1, o3, o4]
  refine forS_inv (OrdI n m ts) (rng 0 (2 * (ts.length : Int))) 0 _ ?_ (fun k d r hd h => ?_) (fun r h => ?_)
  · refine ⟨p, List.replicate m.toNat [], .non, .non, .non, ?_, hp, ordN0 (by omega), .non, rfl, rfl, .non⟩
    rw [← rng_map_nil]
    rfl
  · obtain ⟨rfl, hk⟩ := rng0_get hd
    rw [Nat.zero_add] at h ⊢
    exact ord_body (by omega) (by omega) (by omega) ht h
  · rw [Nat.zero_add, rng0_len, show (2 * (ts.length : Int)).toNat = 2 * ts.length by omega] at h
    obtain ⟨p', rows, x3, x4, x5, rfl, hp', ho, h3, h4, h4a, h5⟩ := h
    simp [-getElem?_pos, -getElem?_neg, List.getElem?_cons_zero, List.getElem?_cons_succ, anyPin, h4]
    refine lcK_map (f := tupOf) (fun d hd => ?_) ?_ ?_
    · obtain ⟨row, hrow, rfl⟩ := List.mem_map.mp hd
      simp [-getElem?_pos, -getElem?_neg, List.getElem?_cons_zero, List.getElem?_cons_succ, tupOf]
    · have := ho.len
      simp [rowsD]
      omega
    · simp [-getElem?_pos, -getElem?_neg, List.getElem?_cons_zero, List.getElem?_cons_succ]
      refine ⟨rows, ?_, ho, hp'⟩
      simp [orderD, rowsD, tupOf, Function.comp_def]
end Lw
end

section
namespace Lw
open PySem DL
/-- the row's next one behind an end -/
def nextIn (row : List Int) (e : Int) : Option Int := (row.findIdx? (· == e)).bind fun k => row[(k + 1) % row.length]?
def nxt (ts : List (Int × Int)) (rows : List (List Int)) (e : Nat) : Option Int := (rows[(plc ts e).toNat]?).bind fun row => nextIn row e
def ptn (e : Nat) : Nat := if e % 2 = 0 then e + 1 else e - 1
theorem findIdx_get {row : List Int} {k : Nat} {e : Int} (h : row[k]? = some e) (nd : row.Nodup) : row.findIdx? (· == e) = some k := by
  obtain ⟨h1, h2⟩ := List.getElem?_eq_some_iff.mp h
  rw [List.findIdx?_eq_some_iff_getElem]
  refine ⟨h1, by simp [h2], fun j hj => ?_⟩
  have : row[j] ≠ row[k] := List.pairwise_iff_getElem.mp nd j k (by omega) h1 hj
  rw [h2] at this
  simpa using this
theorem nextIn_get {row : List Int} {k : Nat} {e : Int} (h : row[k]? = some e) (nd : row.Nodup) : nextIn row e = row[(k + 1) % row.length]? := by
  unfold nextIn
  rw [findIdx_get h nd]
  rfl
theorem place_ok {m : Int} {ts : List (Int × Int)} {k : Nat} (hk : k < 2 * ts.length) : Oks sem_place_of_8c4c [.fz (webD m ts), .fz (.int k)] fun v ys => v = .ok (.val (.int (plc ts k))) ∧ ys = [.fz (webD m ts), .fz (.int k)] := by
  obtain ⟨t, ht1, hi1, hi2, hpl⟩ := plc_get hk
  have s1 : SmD 2 := smD_of (by omega)
  refine oks_def rfl ?_
  simp [b_place_of_8c4c, -getElem?_pos, -getElem?_neg, List.getElem?_cons_zero, List.getElem?_cons_succ, webD, hi1, tieD, hi2, s1]
/-- where an end stands -/
theorem OrdN.at {m : Int} {ts : List (Int × Int)} {rows : List (List Int)} (ho : OrdN m ts (2 * ts.length) rows) (ht : TiesOk m ts) {k : Nat} (hk : k < 2 * ts.length) :
    ∃ q row j y, plc ts k = (q : Nat) ∧ rows[q]? = some row ∧ row[j]? = some (k : Int) ∧ row[(j + 1) % row.length]? = some y ∧ nxt ts rows k = some y ∧ row.findIdx? (· == (k : Int)) = some j ∧ 0 < row.length ∧ row.length ≤ 2 * ts.length ∧ ∃ y', y = (y' : Nat) ∧ y' < 2 * ts.length := by
  obtain ⟨t, ht1, hi1, hi2, hpl⟩ := plc_get hk
  have htk := ht t ht1
  obtain ⟨q, hq⟩ : ∃ q : Nat, plc ts k = q := ⟨(plc ts k).toNat, by omega⟩
  have hqm : q < rows.length := by rw [ho.len]; omega
  obtain ⟨row, hrow⟩ : ∃ row, rows[q]? = some row := ⟨_, List.getElem?_eq_getElem hqm⟩
  have hr := ho.row q row hrow
  have hm : (k : Int) ∈ row := (hr.mem k).mpr ⟨by omega, by omega, by simpa using hq⟩
  obtain ⟨j, hj, hj2⟩ := List.mem_iff_getElem.mp hm
  have hj3 : row[j]? = some (k : Int) := by rw [List.getElem?_eq_getElem hj, hj2]
  have hmod : (j + 1) % row.length < row.length := Nat.mod_lt _ (by omega)
  have hy : row[(j + 1) % row.length]? = some row[(j + 1) % row.length] := List.getElem?_eq_getElem hmod
  have hym := (hr.mem _).mp (List.getElem_mem hmod)
  refine ⟨q, row, j, _, hq, hrow, hj3, hy, ?_, findIdx_get hj3 hr.nd, by omega, hr.len, (row[(j + 1) % row.length]).toNat, by omega, by omega⟩
  unfold nxt
  rw [hq, Int.toNat_natCast, hrow]
  show nextIn row k = _
  rw [nextIn_get hj3 hr.nd, hy]
theorem whole_ok {n : Int} : Oks sem_Lwhole_6385 [.fz (.int n)] fun v ys => v = .ok (.val (.bool true)) ∧ ys = [.fz (.int n)] := by
  refine oks_def rfl ?_
  have a1 : anyTy [.int] (.int n) = some true := rfl
  have a2 : anyTy [.bool] (.int n) = some false := rfl
  simp [b_Lwhole_6385, -getElem?_pos, -getElem?_neg, List.getElem?_cons_zero, List.getElem?_cons_succ, a1, a2]
/-- the others turned about -/
def turn (row : List Int) : List Int := row.take 1 ++ (row.drop 1).reverse
theorem RowN.turn {ts : List (Int × Int)} {k q : Nat} {row : List Int} (h : RowN ts k q row) : RowN ts k q (turn row) := by
  have hperm : (Lw.turn row).Perm row := by
    unfold Lw.turn
    refine (List.Perm.append_left _ (List.reverse_perm _)).trans ?_
    rw [List.take_append_drop]
  refine ⟨hperm.nodup_iff.mpr h.nd, fun e => by rw [hperm.mem_iff, h.mem], fun x xs e y hy => ?_, by rw [hperm.length_eq]; exact h.len⟩
  cases row with
  | nil => cases e
  | cons z zs =>
    unfold Lw.turn at e
    simp at e
    obtain ⟨rfl, rfl⟩ := e
    exact h.hd z zs rfl y (List.mem_reverse.mp hy)
theorem OrdN.turn {m : Int} {ts : List (Int × Int)} {k : Nat} {rows : List (List Int)} (h : OrdN m ts k rows) : OrdN m ts k (rows.map Lw.turn) := by
  refine ⟨by rw [List.length_map]; exact h.len, fun q row e => ?_⟩
  rw [List.getElem?_map] at e
  cases hr : rows[q]? with
  | none => rw [hr] at e; cases e
  | some r0 => rw [hr] at e; cases e; exact (h.row _ _ hr).turn
end Lw
end

section
namespace Lw
open PySem DL
/-- a dict from ends to the next ones, so far -/
structure BehN (ts : List (Int × Int)) (rows : List (List Int)) (q j c : Nat) (kvs : List (Ky × D)) : Prop where
  len : kvs.length ≤ c
  mem : ∀ q' row, rows[q']? = some row → ∀ i y, row[i]? = some y → (q' < q ∨ (q' = q ∧ i < j)) → ∀ x, row[(i + row.length - 1) % row.length]? = some x → valD kvs (.inl x) = some (.int y)
theorem BehN.put {m : Int} {ts : List (Int × Int)} {rows : List (List Int)} {q j c n : Nat} {kvs : List (Ky × D)} {row : List Int} {x y : Int} (ho : OrdN m ts n rows) (h : BehN ts rows q j c kvs) (hr : rows[q]? = some row) (hy : row[j]? = some y) (hx : row[(j + row.length - 1) % row.length]? = some x) : BehN ts rows q (j + 1) (c + 1) (putD kvs (.inl x) (.int y)) := by
  have hj := (List.getElem?_eq_some_iff.mp hy).1
  refine ⟨Nat.le_trans putD_len (by have := h.len; omega), fun q' row' hr' i y' hy' hc x' hx' => ?_⟩
  rw [valD_put]
  have hi := (List.getElem?_eq_some_iff.mp hy').1
  have pm : ∀ i l : Nat, i < l → (i + l - 1) % l < l := fun i l h => Nat.mod_lt _ (by omega)
  by_cases hxx : x' = x
  · subst hxx
    rw [if_pos rfl]
    have hm1 := ((ho.row _ _ hr).mem x').mp (List.mem_of_getElem? hx)
    have hm2 := ((ho.row _ _ hr').mem x').mp (List.mem_of_getElem? hx')
    have hqq : q = q' := by have := hm1.2.2.symm.trans hm2.2.2; exact_mod_cast this
    subst hqq
    rw [hr] at hr'
    cases hr'
    have f1 := findIdx_get hx (ho.row _ _ hr).nd
    have f2 := findIdx_get hx' (ho.row _ _ hr).nd
    rw [f1] at f2
    have f3 := Option.some.inj f2
    have hij : i = j := by
      have a1 : (j + row.length - 1) % row.length = if j = 0 then row.length - 1 else j - 1 := by
        split
        · rename_i h0; subst h0; rw [Nat.zero_add]; exact Nat.mod_eq_of_lt (by omega)
        · rw [show j + row.length - 1 = (j - 1) + row.length by omega, Nat.add_mod_right]; exact Nat.mod_eq_of_lt (by omega)
      have a2 : (i + row.length - 1) % row.length = if i = 0 then row.length - 1 else i - 1 := by
        split
        · rename_i h0; subst h0; rw [Nat.zero_add]; exact Nat.mod_eq_of_lt (by omega)
        · rw [show i + row.length - 1 = (i - 1) + row.length by omega, Nat.add_mod_right]; exact Nat.mod_eq_of_lt (by omega)
      rw [a1, a2] at f3
      split at f3 <;> split at f3 <;> omega
    subst hij
    rw [hy] at hy'
    cases hy'
    rfl
  · rw [if_neg (by simpa using hxx)]
    refine h.mem q' row' hr' i y' hy' ?_ x' hx'
    rcases hc with hc | ⟨rfl, hc⟩
    · exact .inl hc
    · by_cases hij : i = j
      · subst hij
        rw [hr] at hr'
        cases hr'
        rw [hx] at hx'
        exact absurd (Option.some.inj hx').symm hxx
      · exact .inr ⟨rfl, by omega⟩
end Lw
end

section
namespace Lw
open PySem DL
end Lw
end

section
namespace Lw
open PySem DL
/-- crossings -/
structure Cr (ts : List (Int × Int)) (cs : List Int) : Prop where
  len : cs.length = ts.length
  ok : ∀ c ∈ cs, c = 0 ∨ c = 1
theorem Cr.get {ts : List (Int × Int)} {cs : List Int} (h : Cr ts cs) {k : Nat} (hk : k < 2 * ts.length) : ∃ c : Int, (c = 0 ∨ c = 1) ∧ cs[k / 2]? = some c ∧ ixP (cs.map PyData.int) ((k : Int) / 2) = some (.int c) := by
  have hl := h.len
  have hk2 : k / 2 < cs.length := by omega
  refine ⟨cs[k / 2], h.ok _ (List.getElem_mem hk2), List.getElem?_eq_getElem hk2, ?_⟩
  have := ixP_nat (xs := cs.map PyData.int) (k := k / 2) (d := .int cs[k / 2]) (by rw [List.getElem?_map, List.getElem?_eq_getElem hk2]; rfl)
  exact_mod_cast this
/-- the hand behind a tie -/
def hb (c h : Int) : Int := if c = 1 then 1 - h else h
end Lw
end

section
namespace Lw
open PySem DL
theorem boolsD_true {α : Type} (xs : List α) : boolsD (xs.map fun _ => PyData.bool true) = some (xs.map fun _ => true) := by
  induction xs with
  | nil => rfl
  | cons x xs ih => simp [boolsD, ih]
theorem gAll_true {α : Type} (xs : List α) : gAll [.fz (.list (xs.map fun _ => PyData.bool true))] = some (.val (.bool true)) := by
  show (boolsD (xs.map fun _ => PyData.bool true)).map _ = _
  rw [boolsD_true]
  simp
end Lw
end

section
namespace Lw
open PySem DL
/-- data of whole numbers, tuples and lists, k deep -/
def SmD : Nat → D → Prop
  | _, .int _ => True
  | k + 1, .tuple ds => ds.length ≤ 1000000 ∧ ∀ d ∈ ds, SmD k d
  | k + 1, .list ds => ds.length ≤ 1000000 ∧ ∀ d ∈ ds, SmD k d
  | _, _ => False
theorem gAll_t {ds : List D} : gAll [.fz (.list (List.map (fun _ => PyData.bool true) ds))] = some (.val (.bool true)) := gAll_true ds
theorem zip_self {ds : List D} : pairsD ds ds = ds.map fun d => .tuple [d, d] := by
  unfold pairsD
  rw [List.zipWith_self]
end Lw
end

section
namespace Lw
open PySem DL
theorem okD_b {b : Bool} : okD (.bool b) = true := by
  unfold okD PyData.canLay0 PyData.depth
  rfl
theorem eqv_bb {a b : Bool} : PyData.eqv (.bool a) (.bool b) = decide (a = b) := by
  cases a <;> cases b <;> (unfold PyData.eqv; rfl)
@[simp] theorem gEq_bb {a b : Bool} : gEq [.fz (.bool a), .fz (.bool b)] = some (.val (.bool (decide (a = b)))) := by
  show (if okD (.bool a) && okD (.bool b) then some (RV.val (.bool (PyData.eqv (.bool a) (.bool b)))) else none) = _
  rw [okD_b, okD_b, eqv_bb]
  rfl
@[simp] theorem gNe_bb {a b : Bool} : gNe [.fz (.bool a), .fz (.bool b)] = some (.val (.bool (!decide (a = b)))) := by
  show (if okD (.bool a) && okD (.bool b) then some (RV.val (.bool (!PyData.eqv (.bool a) (.bool b)))) else none) = _
  rw [okD_b, okD_b, eqv_bb]
  rfl
end Lw
end

section
namespace Lw
open PySem DL
/-- crossed the other way -/
theorem Cr.other {ts : List (Int × Int)} {cs : List Int} (h : Cr ts cs) : Cr ts (cs.map fun c => 1 - c) := by
  refine ⟨by rw [List.length_map]; exact h.len, fun c hc => ?_⟩
  obtain ⟨x, hx, rfl⟩ := List.mem_map.mp hc
  rcases h.ok x hx with rfl | rfl <;> simp
end Lw
end

section
namespace Lw
open PySem DL
end Lw
end

section
namespace Lw
open PySem DL
theorem ptn_ptn (k : Nat) : ptn (ptn k) = k := by unfold ptn; split <;> split <;> omega
theorem ptn_lt {k n : Nat} (h : k < 2 * n) : ptn k < 2 * n := by unfold ptn; split <;> omega
end Lw
end

section
namespace Lw
open PySem DL
/-- states: the hand behind the tie -/
def hbF (cs : List Int) (s : Nat × Int) : Int := hb (cs[s.1 / 2]?.getD 0) s.2
def bk (cs : List Int) (s : Nat × Int) : Nat × Int := (ptn s.1, 1 - hbF cs s)
def nxF (ts : List (Int × Int)) (rows : List (List Int)) (k : Nat) : Nat := ((nxt ts rows k).getD 0).toNat
/-- a state of the web -/
def St (T : Nat) (s : Nat × Int) : Prop := s.1 < 2 * T ∧ (s.2 = 0 ∨ s.2 = 1)
end Lw
end

section
namespace Lw
open PySem DL
section
variable {m : Int} {ts : List (Int × Int)} {rows : List (List Int)} {cs : List Int}
end
end Lw
end

section
namespace Lw
open PySem DL
/-- onward -/
def onF (ts : List (Int × Int)) (rows : List (List Int)) (k : Nat) : Nat := nxF ts rows (ptn k)
section
variable {m : Int} {ts : List (Int × Int)} {rows : List (List Int)}
end
section
variable {f : Nat → Nat} {P : Nat → Prop} {B : Nat}
/-- a round's least one -/
def isLo (f : Nat → Nat) (x : Nat) : Prop := ∀ y ∈ orb f x, x ≤ y
theorem lo_ex (s : Stp f P B) {x : Nat} (hx : P x) : ∃ i, i < per f x ∧ isLo f (itr f i x) := by
  have h0 := s.per hx
  obtain ⟨v, ⟨i, hi, hv⟩, hmin⟩ := least (P := fun v => ∃ i, i < per f x ∧ itr f i x = v) ⟨x, 0, by omega, rfl⟩
  refine ⟨i, hi, fun y hy => ?_⟩
  have hm : itr f i x ∈ orb f x := (mem_orb s hx).mpr ⟨i, rfl⟩
  have hy2 := orb_trans s hx hm hy
  obtain ⟨n, hn⟩ := (mem_orb s hx).mp hy2
  rw [s.mod hx] at hn
  rw [hv]
  by_cases hlt : y < v
  · exact absurd ⟨n % per f x, Nat.mod_lt _ h0.1, hn⟩ (hmin y hlt)
  · omega
end
end Lw
end

section
namespace Lw
open PySem DL
theorem alike_i {a b : Int} : W.alike (.int a) (.int b) = true := by simp [W.alike]
theorem mmOk_ints (ns : List Int) : mmOk (ns.map .int) = true := by
  unfold mmOk
  rw [all_okE_ints]
  simp [W.alike]
theorem foldl_min : ∀ (ns : List Int) (n m : Int), m ∈ n :: ns → (∀ y ∈ n :: ns, m ≤ y) → ns.foldl min n = m
  | [], n, m, h, _ => by simp at h; simp [h]
  | k :: ns, n, m, h, hle => by
    rw [List.foldl_cons]
    refine foldl_min ns (min n k) m ?_ fun y hy => ?_
    · have h1 := hle n (by simp)
      have h2 := hle k (by simp)
      rcases List.mem_cons.mp h with rfl | h
      · rw [Int.min_eq_left h2]; simp
      · rcases List.mem_cons.mp h with rfl | h
        · rw [Int.min_eq_right h1]; simp
        · exact List.mem_cons_of_mem _ h
    · rcases List.mem_cons.mp hy with rfl | hy
      · have h1 := hle n (by simp)
        have h2 := hle k (by simp)
        omega
      · exact hle y (by simp [hy])
/-- natural numbers as data -/
def intsN (l : List Nat) : List Int := l.map fun n : Nat => (n : Int)
def tupN (l : List Nat) : D := .tuple ((intsN l).map .int)
section
variable {m : Int} {ts : List (Int × Int)} {rows : List (List Int)}
end
end Lw
end

section
namespace Lw
open PySem DL
def loneN (rows : List (List Int)) : List (List Nat) := (rows.filter (·.isEmpty)).map fun _ => []
end Lw
end

section
namespace Lw
open PySem DL
section
variable {f : Nat → Nat} {N B : Nat}
open Classical in
noncomputable def repsN (f : Nat → Nat) (k : Nat) : List Nat := (List.range k).filter fun x => decide (isLo f x)
/-- what is met ahead of the k-th -/
structure MetI (f : Nat → Nat) (N : Nat) (k c : Nat) (kvs : List (Ky × D)) : Prop where
  len : kvs.length ≤ c
  mem : ∀ y, y < N → ((valD kvs (.inl (y : Int))).isSome = true ↔ ∃ z ∈ orb f y, z < k)
theorem MetI.lo (s : Stp f (· < N) B) {k c : Nat} {kvs : List (Ky × D)} (h : MetI f N k c kvs) (hk : k < N) (hm : (valD kvs (.inl (k : Int))).isSome = false) : isLo f k := fun y hy => by
  by_cases hlt : y < k
  · have := (h.mem k hk).mpr ⟨y, hy, hlt⟩
    rw [hm] at this
    cases this
  · omega
theorem lo_uniq (s : Stp f (· < N) B) {k z : Nat} (hk : k < N) (hz : z ∈ orb f k) (h1 : isLo f k) (h2 : isLo f z) : z = k := by
  have a := h1 z hz
  have b := h2 k (orb_symm s hk hz)
  omega
/-- while a round is put down -/
structure MetJ (f : Nat → Nat) (N : Nat) (k j c : Nat) (kvs : List (Ky × D)) : Prop where
  len : kvs.length ≤ c + j
  mem : ∀ y, y < N → ((valD kvs (.inl (y : Int))).isSome = true ↔ (∃ z ∈ orb f y, z < k) ∨ ∃ i, i < j ∧ itr f i k = y)
theorem MetJ.start {k c : Nat} {kvs : List (Ky × D)} (h : MetI f N k c kvs) : MetJ f N k 0 c kvs := ⟨h.len, fun y hy => by rw [h.mem y hy]; simp⟩
theorem MetJ.put {k j c : Nat} {kvs : List (Ky × D)} {d : D} (h : MetJ f N k j c kvs) : MetJ f N k (j + 1) c (putD kvs (.inl ((itr f j k : Nat) : Int)) d) := by
  refine ⟨Nat.le_trans putD_len (by have := h.len; omega), fun y hy => ?_⟩
  rw [valD_put]
  by_cases e : itr f j k = y
  · subst e
    simp
    exact .inr ⟨j, by omega, rfl⟩
  · have e2 : ¬ ((Sum.inl (y : Int) : Ky) = .inl ((itr f j k : Nat) : Int)) := fun h => e (by have := Sum.inl.inj h; omega)
    rw [if_neg e2, h.mem y hy]
    constructor
    · rintro (h | ⟨i, h1, h2⟩)
      · exact .inl h
      · exact .inr ⟨i, by omega, h2⟩
    · rintro (h | ⟨i, h1, h2⟩)
      · exact .inl h
      · refine .inr ⟨i, ?_, h2⟩
        by_cases hij : i = j
        · subst hij; exact absurd h2 e
        · omega
theorem MetJ.done (s : Stp f (· < N) B) {k c : Nat} {kvs : List (Ky × D)} (hk : k < N) (h : MetJ f N k (per f k) c kvs) : MetI f N (k + 1) (c + per f k) kvs := by
  refine ⟨h.len, fun y hy => ?_⟩
  rw [h.mem y hy]
  constructor
  · rintro (⟨z, h1, h2⟩ | ⟨i, h1, h2⟩)
    · exact ⟨z, h1, by omega⟩
    · exact ⟨k, orb_symm s hk ((mem_orb s hk).mpr ⟨i, h2⟩), by omega⟩
  · rintro ⟨z, h1, h2⟩
    by_cases e : z = k
    · subst e
      have := orb_symm s hy h1
      unfold orb at this
      obtain ⟨i, h3, h4⟩ := List.mem_map.mp this
      exact .inr ⟨i, List.mem_range.mp h3, h4⟩
    · exact .inl ⟨z, h1, by omega⟩
end
/-- the faces found ahead of the k-th end -/
noncomputable def fcsK (ts : List (Int × Int)) (rows : List (List Int)) (k : Nat) : List (List Nat) := loneN rows ++ (repsN (onF ts rows) k).map (orb (onF ts rows))
theorem ends_of_ok {m : Int} {ts : List (Int × Int)} (hl : ts.length ≤ 10000) : Oks sem_ends_of_168e [.fz (webD m ts)] fun v ys => v = .ok (.val (.int (2 * ts.length : Nat))) ∧ ys = [.fz (webD m ts)] := by
  refine oks_def rfl ?_
  have : SmM 2 (ts.length : Int) := smM_of (by omega) (by omega)
  simp [-getElem?_pos, -getElem?_neg, List.getElem?_cons_zero, List.getElem?_cons_succ, b_ends_of_168e, webD, this]
section
variable {m : Int} {ts : List (Int × Int)} {rows : List (List Int)}
end
end Lw
end

section
namespace Lw
open PySem DL
section
variable {m : Int} {ts : List (Int × Int)} {rows : List (List Int)}
end
end Lw
end

section
namespace Lw
open PySem DL
section
variable {m : Int} {ts : List (Int × Int)} {rows : List (List Int)}
end
end Lw
end

section
namespace Lw
open PySem DL
noncomputable def facesD (ts : List (Int × Int)) (rows : List (List Int)) : List D := srtD ((fcsK ts rows (2 * ts.length)).map tupN)
section
variable {m : Int} {ts : List (Int × Int)} {rows : List (List Int)}
end
theorem pen_mono {a b : Nat} {q : List D} : a ≤ b → Pen a q → Pen b q := fun h ⟨cs, a, g, e, h1, h2, h3, h4⟩ => ⟨cs, a, g, e, h1, by omega, h3, h4⟩
end Lw
end

section
namespace Lw
open PySem DL
end Lw
end

section
namespace Lw
open PySem DL
@[simp] theorem gAdd_ol {xs ys : List D} : gAdd [.ow (.lst xs), .fz (.list ys)] = if xs.length + ys.length ≤ lineD then some (.new (.lst (xs ++ ys))) else none := rfl
def nm (zs : List Int) (a : Int) : Int := zs.getD a.toNat 0
theorem rng_ints (m : Int) : rng 0 m = ((List.range m.toNat).map fun k : Nat => (k : Int)).map PyData.int := by
  unfold rng
  simp
end Lw
end

section
namespace Lw
open PySem DL
theorem leInt (a b : Int) : W.dataLe false id (.int a) (.int b) = decide (a ≤ b) := by
  have := congrFun (congrFun (W.dataLe_int (β := Int) id) a) b
  exact this
theorem srtD_ints (ns : List Int) : srtD (ns.map .int) = (ns.mergeSort fun a b => decide (a ≤ b)).map PyData.int := by
  unfold srtD
  exact (List.map_mergeSort fun a _ b _ => (leInt a b).symm).symm
theorem srt_pwI (L : List Int) : (L.mergeSort fun a b => decide (a ≤ b)).Pairwise fun a b => decide (a ≤ b) = true :=
  List.pairwise_mergeSort (fun a b c h1 h2 => by simp only [decide_eq_true_eq] at *; omega) (fun a b => by
    have := Int.le_total a b
    simpa using this) L
theorem srtOk_ints (ns : List Int) : srtOk (ns.map .int) = true := by
  unfold srtOk
  have h1 : (ns.map PyData.int).all okE = true := all_okE_ints
  have h2 : ((ns.map PyData.int).all fun d => (ns.map PyData.int).all fun e => W.alike d e) = true := by
    rw [List.all_map]
    refine List.all_eq_true.mpr fun a _ => ?_
    show ((ns.map PyData.int).all fun e => W.alike (.int a) e) = true
    rw [List.all_map]
    exact List.all_eq_true.mpr fun b _ => alike_i (a := a) (b := b)
  have h3 : (ns.map PyData.int).all notTN = true := by
    rw [List.all_map]
    exact List.all_eq_true.mpr fun a _ => rfl
  simp only [h1, h2, h3, Bool.true_or, Bool.or_true, Bool.and_self]
end Lw
end

section
namespace Lw
open PySem DL
theorem lay_all {xs : List D} (h : ∀ d ∈ xs, d.canLay0 = true) : PyData.canLayAll0 xs = true := by
  induction xs with
  | nil => simp [PyData.canLayAll0]
  | cons x xs ih => simp [PyData.canLayAll0, h x (by simp), ih fun d hd => h d (by simp [hd])]
theorem dep_all {xs : List D} {k : Nat} (h : ∀ d ∈ xs, d.depth ≤ k) : PyData.depthAll xs ≤ k := by
  induction xs with
  | nil => simp [PyData.depthAll]
  | cons x xs ih =>
    simp only [PyData.depthAll]
    exact Nat.max_le.mpr ⟨h x (by simp), ih fun d hd => h d (by simp [hd])⟩
theorem SmD.lay : ∀ {k : Nat} {d : D}, SmD k d → d.canLay0 = true ∧ d.depth ≤ k
  | k, .int _, _ => by simp [PyData.canLay0, PyData.depth]
  | k + 1, .tuple ds, h => by
    refine ⟨by simp only [PyData.canLay0]; exact lay_all fun d hd => (SmD.lay (h.2 d hd)).1, ?_⟩
    simp only [PyData.depth]
    have := dep_all (k := k) fun d hd => (SmD.lay (h.2 d hd)).2
    omega
  | k + 1, .list ds, h => by
    refine ⟨by simp only [PyData.canLay0]; exact lay_all fun d hd => (SmD.lay (h.2 d hd)).1, ?_⟩
    simp only [PyData.depth]
    have := dep_all (k := k) fun d hd => (SmD.lay (h.2 d hd)).2
    omega
  | 0, .tuple _, h => h.elim
  | 0, .list _, h => h.elim
  | 0, .none, h => h.elim
  | 0, .bool _, h => h.elim
  | 0, .str _, h => h.elim
  | 0, .dict _, h => h.elim
  | _ + 1, .none, h => h.elim
  | _ + 1, .bool _, h => h.elim
  | _ + 1, .str _, h => h.elim
  | _ + 1, .dict _, h => h.elim
theorem SmD.okD {k : Nat} {d : D} (h : SmD k d) (hk : k ≤ 40) : DL.okD d = true ∧ DL.okE d = true := by
  obtain ⟨a, b⟩ := h.lay
  unfold DL.okD DL.okE
  simp [a]
  omega
section
variable {m : Int} {ts : List (Int × Int)} {rows : List (List Int)}
open Classical in
theorem reps_mem {f : Nat → Nat} {k x : Nat} : x ∈ repsN f k ↔ x < k ∧ isLo f x := by
  unfold repsN
  rw [List.mem_filter, List.mem_range]
  simp
end
end Lw
end

section
namespace Lw
open PySem DL
section
variable {m : Int} {ts : List (Int × Int)} {rows : List (List Int)}
end
end Lw
end

section
namespace Lw
open PySem DL
def rl (lo hi x : Int) : Int := if x = hi then lo else x
def mkAt (ms : List Int) (a : Int) : Int := ms.getD a.toNat 0
def mstep (ms : List Int) (t : Int × Int) : List Int :=
  ms.map (rl (if mkAt ms t.2 < mkAt ms t.1 then mkAt ms t.2 else mkAt ms t.1) (if mkAt ms t.2 > mkAt ms t.1 then mkAt ms t.2 else mkAt ms t.1))
def rangeI (m : Int) : List Int := (List.range m.toNat).map fun k : Nat => (k : Int)
def marks (m : Int) (ts : List (Int × Int)) : List Int := ts.foldl mstep (rangeI m)
theorem mstep_len (ms : List Int) (t : Int × Int) : (mstep ms t).length = ms.length := by simp [mstep]
theorem foldl_len : ∀ (ts : List (Int × Int)) (ms : List Int), (ts.foldl mstep ms).length = ms.length
  | [], _ => rfl
  | t :: ts, ms => by rw [List.foldl_cons, foldl_len ts, mstep_len]
theorem marks_len (m : Int) (ts : List (Int × Int)) : (marks m ts).length = m.toNat := by
  unfold marks
  rw [foldl_len]
  simp [rangeI]
theorem mkAt_ok {ms : List Int} {a : Int} (h0 : 0 ≤ a) (h1 : a < ms.length) : ixP (ms.map PyData.int) a = some (.int (mkAt ms a)) ∧ ms[a.toNat]? = some (mkAt ms a) := by
  have hg : ms[a.toNat]? = some (mkAt ms a) := by
    unfold mkAt
    rw [List.getD_eq_getElem?_getD, List.getElem?_eq_getElem (by omega)]
    rfl
  exact ⟨ixP_pos h0 (by rw [List.getElem?_map, hg]; rfl), hg⟩
theorem marks_take (m : Int) (ts : List (Int × Int)) {q : Nat} {t : Int × Int} (h : ts[q]? = some t) : marks m (ts.take (q + 1)) = mstep (marks m (ts.take q)) t := by
  unfold marks
  rw [List.take_add_one, h]
  simp [List.foldl_append]
/-- the lists of places with one mark, by the marks -/
def grp (ms : List Int) (f : Int) : List Int := ((List.range ms.length).filter fun p : Nat => mkAt ms (p : Int) == f).map fun p : Nat => (p : Int)
def partsI (ms : List Int) : List (List Int) := (dsort ms).map (grp ms)
def lstI (l : List Int) : D := .list (l.map .int)
def partsD (m : Int) (ts : List (Int × Int)) : List D := (partsI (marks m ts)).map lstI
end Lw
end

section
namespace Lw
open PySem DL
theorem put_keys (kvs : List (Ky × List D)) (k : Ky) (d : D) : (putL kvs k d).map (·.1) = if (kvs.any fun kv => decide (kv.1 = k)) = true then kvs.map (·.1) else kvs.map (·.1) ++ [k] := by
  unfold putL
  split
  · rw [List.map_map]
    refine List.map_congr_left fun kv _ => ?_
    simp only [Function.comp]
    split <;> rfl
  · simp
theorem look_map (f n : Int) (d : D) : ∀ kvs : List (Ky × List D), (n = f → (kvs.any fun kv => decide (kv.1 = .inl f)) = true) →
    lookL (kvs.map fun kv => if kv.1 = .inl f then (kv.1, kv.2 ++ [d]) else kv) n = if n = f then lookL kvs f ++ [d] else lookL kvs n
  | [], h => by
    by_cases e : n = f
    · exact absurd (h e) (by simp)
    · rw [if_neg e]; rfl
  | kv :: t, h => by
    by_cases k1 : kv.1 = .inl n
    · by_cases e : n = f
      · subst e
        unfold lookL
        rw [List.map_cons, if_pos k1, List.find?_cons, List.find?_cons]
        simp [k1]
      · have k2 : ¬ kv.1 = .inl f := fun z => e (by rw [k1] at z; exact Sum.inl.inj z)
        unfold lookL
        rw [List.map_cons, if_neg k2, List.find?_cons, List.find?_cons, if_neg e]
        simp [k1]
    · have hk : ((if kv.1 = .inl f then (kv.1, kv.2 ++ [d]) else kv) : Ky × List D).1 = kv.1 := by split <;> rfl
      have ih := look_map f n d t (fun e => by
        have := h e
        rw [List.any_cons, Bool.or_eq_true] at this
        rcases this with z | z
        · simp only [decide_eq_true_eq] at z
          exact absurd (by rw [e]; exact z) k1
        · exact z)
      have l1 : lookL (((if kv.1 = .inl f then (kv.1, kv.2 ++ [d]) else kv) : Ky × List D) :: (t.map fun kv => if kv.1 = .inl f then (kv.1, kv.2 ++ [d]) else kv)) n = lookL (t.map fun kv => if kv.1 = .inl f then (kv.1, kv.2 ++ [d]) else kv) n := by
        unfold lookL
        rw [List.find?_cons]
        simp [hk, k1]
      have l2 : lookL (kv :: t) n = lookL t n := by
        unfold lookL
        rw [List.find?_cons]
        simp [k1]
      rw [List.map_cons, l1, ih, l2]
      by_cases e : n = f
      · subst e
        rw [if_pos rfl, if_pos rfl, l2]
      · rw [if_neg e, if_neg e]
theorem look_put (kvs : List (Ky × List D)) (f n : Int) (d : D) : lookL (putL kvs (.inl f) d) n = if n = f then lookL kvs f ++ [d] else lookL kvs n := by
  unfold putL
  by_cases h : (kvs.any fun kv => decide (kv.1 = .inl f)) = true
  · rw [if_pos h]
    exact look_map f n d kvs fun _ => h
  · rw [if_neg h]
    have nf : kvs.find? (fun kv => decide (kv.1 = .inl f)) = none := by
      rw [List.find?_eq_none]
      intro kv hk hz
      exact h (List.any_eq_true.mpr ⟨kv, hk, hz⟩)
    by_cases e : n = f
    · subst e
      rw [if_pos rfl]
      unfold lookL
      rw [List.find?_append, nf]
      simp
    · rw [if_neg e]
      unfold lookL
      rw [List.find?_append]
      cases q : kvs.find? fun kv => decide (kv.1 = .inl n) with
      | some kv => rfl
      | none =>
        have : ¬ f = n := fun z => e z.symm
        simp [this]
structure GrpK (ms : List Int) (k : Nat) (kvs : List (Ky × List D)) (ns : List Int) : Prop where
  keys : kvs.map (·.1) = ns.map Sum.inl
  nd : ns.Nodup
  mem : ∀ n, n ∈ ns ↔ ∃ p : Nat, p < k ∧ mkAt ms (p : Int) = n
  look : ∀ n ∈ ns, lookL kvs n = (((List.range k).filter fun p : Nat => mkAt ms (p : Int) == n).map fun p : Nat => (p : Int)).map .int
  lens : ∀ kv ∈ kvs, kv.2.length ≤ k
  len : kvs.length ≤ k
theorem GrpK.zero (ms : List Int) : GrpK ms 0 [] [] := ⟨rfl, .nil, fun n => by simp, (fun n (h : n ∈ []) => by cases h), (fun kv (h : kv ∈ []) => by cases h), Nat.le_refl _⟩
theorem GrpK.step {ms : List Int} {k : Nat} {kvs : List (Ky × List D)} {ns : List Int} (h : GrpK ms k kvs ns) : GrpK ms (k + 1) (putL kvs (.inl (mkAt ms (k : Int))) (.int (k : Int))) (if mkAt ms (k : Int) ∈ ns then ns else ns ++ [mkAt ms (k : Int)]) := by
  have hany : ((kvs.any fun kv => decide (kv.1 = .inl (mkAt ms (k : Int)))) = true) ↔ mkAt ms (k : Int) ∈ ns := by
    rw [List.any_eq_true]
    constructor
    · rintro ⟨kv, h1, h2⟩
      have h3 : (Sum.inl (mkAt ms (k : Int)) : Ky) ∈ kvs.map (·.1) := List.mem_map.mpr ⟨kv, h1, by simpa using h2⟩
      rw [h.keys] at h3
      obtain ⟨n, h4, h5⟩ := List.mem_map.mp h3
      rw [← Sum.inl.inj h5]
      exact h4
    · intro h1
      have h3 : (Sum.inl (mkAt ms (k : Int)) : Ky) ∈ kvs.map (·.1) := by rw [h.keys]; exact List.mem_map.mpr ⟨_, h1, rfl⟩
      obtain ⟨kv, h4, h5⟩ := List.mem_map.mp h3
      exact ⟨kv, h4, by simpa using h5⟩
  refine ⟨?_, ?_, fun n => ?_, fun n hn => ?_, fun kv hkv => ?_, ?_⟩
  · rw [put_keys]
    by_cases hm : mkAt ms (k : Int) ∈ ns
    · rw [if_pos (hany.mpr hm), if_pos hm, h.keys]
    · rw [if_neg (fun z => hm (hany.mp z)), if_neg hm, h.keys, List.map_append]
      rfl
  · by_cases hm : mkAt ms (k : Int) ∈ ns
    · rw [if_pos hm]; exact h.nd
    · rw [if_neg hm, List.nodup_append]
      exact ⟨h.nd, by simp, fun a ha b hb e => by simp at hb; subst hb; exact hm (e ▸ ha)⟩
  · have e1 : (∃ p : Nat, p < k + 1 ∧ mkAt ms (p : Int) = n) ↔ (∃ p : Nat, p < k ∧ mkAt ms (p : Int) = n) ∨ mkAt ms (k : Int) = n := by
      constructor
      · rintro ⟨p, h1, h2⟩
        by_cases hp : p = k
        · subst hp; exact .inr h2
        · exact .inl ⟨p, by omega, h2⟩
      · rintro (⟨p, h1, h2⟩ | h2)
        · exact ⟨p, by omega, h2⟩
        · exact ⟨k, by omega, h2⟩
    rw [e1, ← h.mem]
    by_cases hm : mkAt ms (k : Int) ∈ ns
    · rw [if_pos hm]
      exact ⟨.inl, fun z => z.elim id fun z => z ▸ hm⟩
    · rw [if_neg hm, List.mem_append, List.mem_singleton]
      exact ⟨fun z => z.imp id Eq.symm, fun z => z.imp id Eq.symm⟩
  · rw [look_put, List.range_succ, List.filter_append, List.map_append, List.map_append]
    by_cases e : n = mkAt ms (k : Int)
    · rw [if_pos e]
      have e2 : lookL kvs (mkAt ms (k : Int)) = (((List.range k).filter fun p : Nat => mkAt ms (p : Int) == n).map fun p : Nat => (p : Int)).map .int := by
        by_cases hm : mkAt ms (k : Int) ∈ ns
        · rw [← e, h.look n (e ▸ hm)]
        · have no : (List.range k).filter (fun p : Nat => mkAt ms (p : Int) == n) = [] := by
            rw [List.filter_eq_nil_iff]
            intro p hp hz
            exact hm ((h.mem _).mpr ⟨p, List.mem_range.mp hp, by rw [← e]; simpa using hz⟩)
          rw [no]
          have nf : kvs.find? (fun kv => decide (kv.1 = .inl (mkAt ms (k : Int)))) = none := by
            rw [List.find?_eq_none]
            intro kv hk hz
            exact hm (hany.mp (List.any_eq_true.mpr ⟨kv, hk, hz⟩))
          unfold lookL
          rw [nf]
          rfl
      have e3 : (mkAt ms (k : Int) == n) = true := by rw [e]; simp
      rw [e2, List.filter_cons, if_pos e3]
      rfl
    · have hn2 : n ∈ ns := by
        by_cases hm : mkAt ms (k : Int) ∈ ns
        · rw [if_pos hm] at hn; exact hn
        · rw [if_neg hm, List.mem_append, List.mem_singleton] at hn
          exact hn.elim id fun z => absurd z e
      rw [if_neg e, h.look n hn2]
      have : ¬ mkAt ms (k : Int) = n := fun z => e z.symm
      simp [this]
  · unfold putL at hkv
    split at hkv
    · obtain ⟨kv', h1, rfl⟩ := List.mem_map.mp hkv
      have := h.lens kv' h1
      split
      · simp; omega
      · omega
    · rcases List.mem_append.mp hkv with h1 | h1
      · have := h.lens kv h1
        omega
      · simp at h1
        subst h1
        simp
  · have hl := h.len
    unfold putL
    split
    · simp; omega
    · simp; omega
theorem GrpK.done {ms : List Int} {kvs : List (Ky × List D)} {ns : List Int} (h : GrpK ms ms.length kvs ns) : (ns.mergeSort fun a b => decide (a ≤ b)) = dsort ms ∧ (dsort ms).map (lookL kvs) = (dsort ms).map fun n => (grp ms n).map .int := by
  have hmem : ∀ n, n ∈ ns ↔ n ∈ ms := fun n => by
    rw [h.mem]
    constructor
    · rintro ⟨p, h1, h2⟩
      obtain ⟨_, h3⟩ := mkAt_ok (ms := ms) (a := (p : Int)) (by omega) (by omega)
      rw [h2] at h3
      exact List.mem_of_getElem? h3
    · intro hn
      obtain ⟨p, h1, h2⟩ := List.mem_iff_getElem.mp hn
      refine ⟨p, h1, ?_⟩
      unfold mkAt
      rw [List.getD_eq_getElem?_getD, Int.toNat_natCast, List.getElem?_eq_getElem h1, ← h2]
      rfl
  have hs : (ns.mergeSort fun a b => decide (a ≤ b)) = dsort ms := by
    refine dsort_uniq ?_ fun k => by rw [List.mem_mergeSort, hmem]
    have nd : (ns.mergeSort fun a b => decide (a ≤ b)).Nodup := (List.mergeSort_perm ..).nodup_iff.mpr h.nd
    have pw := srt_pwI ns
    have := pw.and (List.nodup_iff_pairwise_ne.mp nd)
    exact this.imp fun h => by
      have h1 := of_decide_eq_true h.1
      have h2 := h.2
      omega
  refine ⟨hs, List.map_congr_left fun n hn => ?_⟩
  rw [dsort_mem, ← hmem] at hn
  exact h.look n hn
end Lw
end

section
namespace Lw
open PySem DL
theorem web_0 {m : Int} {ts : List (Int × Int)} : gIx [.fz (webD m ts), .fz (.int 0)] = some (.val (.int m)) := by
  unfold webD
  rw [gIx_t, ixP_0]
  rfl
theorem web_1 {m : Int} {ts : List (Int × Int)} : gIx [.fz (webD m ts), .fz (.int 1)] = some (.val (.tuple (ts.map tieD))) := by
  unfold webD
  rw [gIx_t, ixP_1]
  rfl
section
variable {m : Int} {ts : List (Int × Int)} {rows : List (List Int)}
/-- twice the holes -/
noncomputable def twiceN (m : Int) (ts : List (Int × Int)) (rows : List (List Int)) : Int := 2 * ((partsD m ts).length : Int) - m + (ts.length : Int) - ((facesD ts rows).length : Int)
end
end Lw
end

section
namespace Lw
open PySem DL
def TpD : Nat → D → Prop
  | _, .int _ => True
  | k + 1, .tuple ds => ds.length ≤ 1000000 ∧ ∀ d ∈ ds, TpD k d
  | _, _ => False
theorem same3_refl : ∀ (k j : Nat) (d : D), TpD k d → sem_Lsame_3cff (k + j + 1) [.fz d, .fz d] = some (.ok (.val (.bool true)), [.fz d, .fz d])
  | k, j, .int n, _ => by
    have goal : Oks (defSem 2 4 (b_Lsame_3cff (sem_Lsame_3cff (k + j)))) [.fz (.int n), .fz (.int n)] fun v ys => v = .ok (.val (.bool true)) ∧ ys = [.fz (.int n), .fz (.int n)] := by
      obtain ⟨_, _, e1, rfl, rfl⟩ := whole_ok (n := n)
      have a1 : anyTy [.tuple] (.int n) = some false := rfl
      refine oks_def rfl ?_
      simp [-getElem?_pos, -getElem?_neg, List.getElem?_cons_zero, List.getElem?_cons_succ, b_Lsame_3cff, a1, e1]
    obtain ⟨_, _, e, rfl, rfl⟩ := goal
    exact e
  | k + 1, j, .tuple ds, h => by
    obtain ⟨hl, hd⟩ := h
    have ih := fun d (h : d ∈ ds) => same3_refl k j d (hd d h)
    have goal : Oks (defSem 2 4 (b_Lsame_3cff (sem_Lsame_3cff (k + j + 1)))) [.fz (.tuple ds), .fz (.tuple ds)] fun v ys => v = .ok (.val (.bool true)) ∧ ys = [.fz (.tuple ds), .fz (.tuple ds)] := by
      have a2 : anyTy [.tuple] (.tuple ds) = some true := rfl
      have z1 : gZip [.fz (.tuple ds), .fz (.tuple ds)] = some (ds.map fun d => .tuple [d, d]) := congrArg some zip_self
      have lb : (lineD : Nat) = 16777216 := rfl
      refine oks_def rfl ?_
      simp [-getElem?_pos, -getElem?_neg, List.getElem?_cons_zero, List.getElem?_cons_succ, b_Lsame_3cff, a2, z1, anyPin]
      refine lcK_map (f := fun _ => .bool true) (fun d hd => ?_) (by simp; omega) ?_
      · obtain ⟨x, hx, rfl⟩ := List.mem_map.mp hd
        have e2 := ih x hx
        simp [-getElem?_pos, -getElem?_neg, List.getElem?_cons_zero, List.getElem?_cons_succ, e2]
      · have := gAll_t (ds := ds.map fun d => PyData.tuple [d, d])
        rw [List.map_map] at this
        simp [-getElem?_pos, -getElem?_neg, List.getElem?_cons_zero, List.getElem?_cons_succ, this]
    obtain ⟨_, _, e, rfl, rfl⟩ := goal
    rw [show k + 1 + j + 1 = (k + j + 1) + 1 by omega]
    exact e
  | 0, _, .tuple _, h => h.elim
  | 0, _, .list _, h => h.elim
  | 0, _, .none, h => h.elim
  | 0, _, .bool _, h => h.elim
  | 0, _, .str _, h => h.elim
  | 0, _, .dict _, h => h.elim
  | _ + 1, _, .list _, h => h.elim
  | _ + 1, _, .none, h => h.elim
  | _ + 1, _, .bool _, h => h.elim
  | _ + 1, _, .str _, h => h.elim
  | _ + 1, _, .dict _, h => h.elim
theorem web_tp {m : Int} {ts : List (Int × Int)} (h : ts.length ≤ 1000000) : TpD 3 (webD m ts) := by
  refine ⟨by simp, fun d hd => ?_⟩
  rcases List.mem_cons.mp hd with rfl | hd
  · trivial
  · cases List.mem_singleton.mp hd
    refine ⟨by simpa using h, fun d hd => ?_⟩
    obtain ⟨t, _, rfl⟩ := List.mem_map.mp hd
    refine ⟨by simp, fun d hd => ?_⟩
    rcases List.mem_cons.mp hd with rfl | hd
    · trivial
    · cases List.mem_singleton.mp hd
      trivial
section
variable {m p its m1 m2 : Int} {ts ts1 ts2 : List (Int × Int)}
end
end Lw
end

section
namespace Lw
open PySem DL
section
variable {m p its m1 m2 : Int} {ts ts1 ts2 : List (Int × Int)}
end
end Lw
end

section
namespace Lw
open PySem DL
end Lw
end

section
namespace Lw
open PySem DL
theorem rl_eq {lo hi x y : Int} : rl lo hi x = rl lo hi y ↔ x = y ∨ ((x = lo ∨ x = hi) ∧ (y = lo ∨ y = hi)) := by
  unfold rl
  by_cases h1 : x = hi <;> by_cases h2 : y = hi
  · simp [h1, h2]
  · rw [if_pos h1, if_neg h2]
    constructor
    · intro h; exact .inr ⟨.inr h1, .inl h.symm⟩
    · rintro (h | ⟨_, h | h⟩)
      · exact absurd (h.symm.trans h1) h2
      · exact h.symm
      · exact absurd h h2
  · rw [if_neg h1, if_pos h2]
    constructor
    · intro h; exact .inr ⟨.inl h, .inr h2⟩
    · rintro (h | ⟨h | h, _⟩)
      · exact absurd (h.trans h2) h1
      · exact h
      · exact absurd h h1
  · rw [if_neg h1, if_neg h2]
    constructor
    · intro h; exact .inl h
    · rintro (h | ⟨h | h, h' | h'⟩)
      · exact h
      · exact h.trans h'.symm
      · exact absurd h' h2
      · exact absurd h h1
      · exact absurd h h1
theorem mkAt_map {g : Int → Int} {l : List Int} {x : Int} (h0 : 0 ≤ x) (h1 : x < l.length) : mkAt (l.map g) x = g (mkAt l x) := by
  unfold mkAt
  rw [List.getD_eq_getElem?_getD, List.getD_eq_getElem?_getD, List.getElem?_map, List.getElem?_eq_getElem (by omega)]
  rfl
/-- one tie more: what hangs together -/
theorem mstep_eq {ms : List Int} {t : Int × Int} {x y : Int} (hx : 0 ≤ x ∧ x < ms.length) (hy : 0 ≤ y ∧ y < ms.length) :
    mkAt (mstep ms t) x = mkAt (mstep ms t) y ↔ mkAt ms x = mkAt ms y ∨ ((mkAt ms x = mkAt ms t.1 ∨ mkAt ms x = mkAt ms t.2) ∧ (mkAt ms y = mkAt ms t.1 ∨ mkAt ms y = mkAt ms t.2)) := by
  unfold mstep
  rw [mkAt_map hx.1 hx.2, mkAt_map hy.1 hy.2, rl_eq]
  generalize mkAt ms t.1 = a
  generalize mkAt ms t.2 = b
  by_cases h : b < a
  · rw [if_pos h, if_neg (by omega)]
    constructor
    · rintro (h | ⟨h1, h2⟩)
      · exact .inl h
      · exact .inr ⟨h1.symm, h2.symm⟩
    · rintro (h | ⟨h1, h2⟩)
      · exact .inl h
      · exact .inr ⟨h1.symm, h2.symm⟩
  · rw [if_neg h]
    by_cases h2 : b > a
    · rw [if_pos h2]
    · rw [if_neg h2]
      have : a = b := by omega
      subst this
      simp
end Lw
end

section
namespace Lw
open PySem DL
def endF (ts : List (Int × Int)) (p : Int) : D → Option D
  | .int e => if plc ts e.toNat = p then some (.int e) else none
  | _ => none
theorem rng0_mem {n : Int} {d : D} (h : d ∈ rng 0 n) : ∃ k : Nat, d = .int k ∧ (k : Int) < n := by
  obtain ⟨k, hk, e⟩ := List.mem_iff_getElem.mp h
  have := rng0_get (n := n) (k := k) (d := d) (by rw [List.getElem?_eq_getElem hk, e])
  exact ⟨k, this⟩
/-- the ends at a place -/
def endsD (ts : List (Int × Int)) (p : Int) : List D := (rng 0 (2 * (ts.length : Int))).filterMap (endF ts p)
theorem ends_at_ok {m p : Int} {ts : List (Int × Int)} (hl : ts.length ≤ 10000) : Oks sem_ends_at_2b9c [.fz (webD m ts), .fz (.int p)] fun v ys => v = .ok (.new (.lst (endsD ts p))) ∧ ys = [.fz (webD m ts), .fz (.int p)] := by
  obtain ⟨_, _, e1, rfl, rfl⟩ := ends_of_ok (m := m) hl
  have lb : (lineD : Nat) = 16777216 := rfl
  refine oks_def rfl ?_
  simp [-getElem?_pos, -getElem?_neg, List.getElem?_cons_zero, List.getElem?_cons_succ, b_ends_at_2b9c, e1, anyPin]
  refine ⟨⟨by omega, by omega⟩, lcK_of (endF ts p) (fun d hd => ?_) ?_ ?_⟩
  · obtain ⟨k, rfl, hk⟩ := rng0_mem hd
    obtain ⟨_, _, e2, rfl, rfl⟩ := place_ok (m := m) (ts := ts) (k := k) (by omega)
    by_cases h : plc ts k = p
    · simp [-getElem?_pos, -getElem?_neg, List.getElem?_cons_zero, List.getElem?_cons_succ, e2, h, endF]
    · simp [-getElem?_pos, -getElem?_neg, List.getElem?_cons_zero, List.getElem?_cons_succ, e2, h, endF]
  · rw [rng0_len, List.length_nil]; omega
  · simp [-getElem?_pos, -getElem?_neg, List.getElem?_cons_zero, List.getElem?_cons_succ, endsD]
end Lw
end

section
namespace Lw
open PySem DL
def endsI (ts : List (Int × Int)) (p : Int) : List Int := ((List.range (2 * ts.length)).filter fun e => decide (plc ts e = p)).map fun e : Nat => (e : Int)
theorem endsI_mem {ts : List (Int × Int)} {p e : Int} : e ∈ endsI ts p ↔ 0 ≤ e ∧ e < 2 * ts.length ∧ plc ts e.toNat = p := by
  unfold endsI
  rw [List.mem_map]
  constructor
  · rintro ⟨k, hk, rfl⟩
    rw [List.mem_filter, List.mem_range] at hk
    exact ⟨by omega, by omega, by simpa using hk.2⟩
  · rintro ⟨h0, h1, h2⟩
    exact ⟨e.toNat, by rw [List.mem_filter, List.mem_range]; exact ⟨by omega, by simpa using h2⟩, by omega⟩
theorem endsI_pw (ts : List (Int × Int)) (p : Int) : (endsI ts p).Pairwise (· < ·) := by
  unfold endsI
  rw [List.pairwise_map]
  refine List.Pairwise.imp (R := (· < ·)) (fun {a b} h => by omega) (List.pairwise_lt_range.filter _)
theorem endsD_I (ts : List (Int × Int)) (p : Int) : endsD ts p = (endsI ts p).map .int := by
  unfold endsD endsI
  rw [rng_ints, show (2 * (ts.length : Int)).toNat = 2 * ts.length by omega, List.map_map]
  induction (List.range (2 * ts.length)) with
  | nil => rfl
  | cons k l ih =>
    rw [List.map_cons, List.filterMap_cons, List.filter_cons]
    by_cases h : plc ts k = p
    · have : endF ts p ((PyData.int ∘ fun k : Nat => (k : Int)) k) = some (.int (k : Int)) := by simp [endF, h]
      rw [this]
      simp only [h, decide_true, if_true]
      rw [List.map_cons, List.map_cons]
      rw [← ih]
    · have : endF ts p ((PyData.int ∘ fun k : Nat => (k : Int)) k) = none := by simp [endF, h]
      rw [this]
      simp only [h, decide_false]
      exact ih
theorem pw_le_lt {l : List Int} (h : l.Pairwise fun a b => decide (a ≤ b) = true) (nd : l.Nodup) : l.Pairwise (· < ·) := by
  refine List.Pairwise.imp₂ (R := fun a b => decide (a ≤ b) = true) (S := (· ≠ ·)) (fun a b h1 h2 => ?_) h (List.nodup_iff_pairwise_ne.mp nd)
  have : a ≤ b := by simpa using h1
  omega
theorem pw_ext {a b : List Int} (ha : a.Pairwise (· < ·)) (hb : b.Pairwise (· < ·)) (h : ∀ k, k ∈ a ↔ k ∈ b) : a = b := by
  induction a generalizing b with
  | nil =>
    cases b with
    | nil => rfl
    | cons y b => exact absurd ((h y).mpr (by simp)) (by simp)
  | cons x a ih =>
    cases b with
    | nil => exact absurd ((h x).mp (by simp)) (by simp)
    | cons y b =>
      obtain ⟨a1, a2⟩ := List.pairwise_cons.mp ha
      obtain ⟨b1, b2⟩ := List.pairwise_cons.mp hb
      have e : x = y := by
        rcases List.mem_cons.mp ((h x).mp (by simp)) with q | q
        · exact q
        · rcases List.mem_cons.mp ((h y).mpr (by simp)) with q2 | q2
          · exact q2.symm
          · have := a1 y q2
            have := b1 x q
            omega
      subst e
      congr 1
      refine ih a2 b2 fun k => ?_
      have := h k
      simp only [List.mem_cons] at this
      constructor
      · intro hk
        rcases this.mp (.inr hk) with q | q
        · have := a1 k hk; omega
        · exact q
      · intro hk
        rcases this.mpr (.inr hk) with q | q
        · have := b1 k hk; omega
        · exact q
theorem row_sorted {ts : List (Int × Int)} {q : Nat} {row : List Int} (h : RowN ts (2 * ts.length) q row) : srtD (row.map .int) = (endsI ts q).map .int := by
  rw [srtD_ints]
  congr 1
  have hp : (row.mergeSort fun a b => decide (a ≤ b)).Perm row := List.mergeSort_perm ..
  refine pw_ext (pw_le_lt (srt_pwI row) (hp.nodup_iff.mpr h.nd)) (endsI_pw ts q) fun k => ?_
  rw [hp.mem_iff, h.mem, endsI_mem]
  constructor <;> (rintro ⟨a, b, c⟩; exact ⟨a, by omega, c⟩)
theorem okD_ints (ns : List Int) : DL.okD (.list (ns.map .int)) = true := by
  unfold DL.okD
  simp [PyData.canLay0, PyData.depth, lay_ints, dep_ints]
theorem eqv_li {ns ms : List Int} : PyData.eqv (.list (ns.map .int)) (.list (ms.map .int)) = decide (ns = ms) := by
  unfold PyData.eqv
  rw [eqv_ints]
theorem gNe_li {ns ms : List Int} : gNe [.fz (.list (ns.map .int)), .fz (.list (ms.map .int))] = some (.val (.bool (!decide (ns = ms)))) := by
  show (if DL.okD (.list (ns.map .int)) && DL.okD (.list (ms.map .int)) then some (RV.val (.bool (!PyData.eqv (.list (ns.map .int)) (.list (ms.map .int))))) else none) = _
  rw [okD_ints, okD_ints, eqv_li]
  rfl
end Lw
end

section
namespace Lw
open PySem DL
section
variable {m1 m2 : Int} {ts1 ts2 : List (Int × Int)} {rows1 rows2 : List (List Int)} {p its : Nat}
def shR (c : Int) (row : List Int) : List Int := row.map fun e => e + c
theorem plc_bd {m : Int} {ts : List (Int × Int)} (ht : TiesOk m ts) {x : Nat} (hx : x < 2 * ts.length) : 0 ≤ plc ts x ∧ plc ts x < m := by
  obtain ⟨t, h1, _, _, h2⟩ := plc_get hx
  have := ht t h1
  rcases h2 with h2 | h2 <;> omega
end
end Lw
end

section
namespace Lw
open PySem DL
theorem grp_mem {ms : List Int} {f a : Int} : a ∈ grp ms f ↔ 0 ≤ a ∧ a < ms.length ∧ mkAt ms a = f := by
  unfold grp
  rw [List.mem_map]
  constructor
  · rintro ⟨p, h1, rfl⟩
    rw [List.mem_filter, List.mem_range] at h1
    exact ⟨by omega, by omega, by simpa using h1.2⟩
  · rintro ⟨h0, h1, h2⟩
    refine ⟨a.toNat, ?_, by omega⟩
    rw [List.mem_filter, List.mem_range]
    refine ⟨by omega, ?_⟩
    rw [show ((a.toNat : Nat) : Int) = a by omega, h2]
    simp
theorem mkAt_mem {ms : List Int} {a : Int} (h0 : 0 ≤ a) (h1 : a < ms.length) : mkAt ms a ∈ ms := List.mem_of_getElem? (mkAt_ok h0 h1).2
end Lw
end

section
namespace Lw
open PySem DL
theorem mkAt_range {m a : Int} (h0 : 0 ≤ a) (h1 : a < m) : mkAt (rangeI m) a = a := by
  unfold mkAt rangeI
  rw [List.getD_eq_getElem?_getD, List.getElem?_map, List.getElem?_range (by omega)]
  show ((a.toNat : Nat) : Int) = a
  omega
end Lw
end

section
namespace Lw
open PySem DL
section
variable {m : Int} {ts : List (Int × Int)} {rows : List (List Int)}
def plN (ts : List (Int × Int)) (x : Nat) : Nat := (plc ts x).toNat
def hangR (m : Int) (ts : List (Int × Int)) (k x y : Nat) : Prop := mkAt (marks m (ts.take k)) (x : Int) = mkAt (marks m (ts.take k)) (y : Int)
theorem plc_tie {k : Nat} {t : Int × Int} (h : ts[k]? = some t) : plc ts (2 * k) = t.1 ∧ plc ts (2 * k + 1) = t.2 := by
  unfold plc
  rw [show 2 * k / 2 = k by omega, show (2 * k + 1) / 2 = k by omega, h]
  exact ⟨if_pos (by omega), if_neg (by omega)⟩
theorem plN_cast (ht : TiesOk m ts) {x : Nat} (hx : x < 2 * ts.length) : ((plN ts x : Nat) : Int) = plc ts x ∧ plN ts x < m.toNat := by
  have := plc_bd ht hx
  unfold plN
  omega
theorem hang (ht : TiesOk m ts) : Hang ts.length m.toNat (plN ts) (hangR m ts) := by
  refine ⟨fun k _ => ⟨fun x _ => rfl, fun x y _ _ h => Eq.symm h, fun x y z _ _ _ h1 h2 => Eq.trans h1 h2⟩, fun x y hx hy => ?_, fun k hk x y hx hy => ?_⟩
  · unfold hangR
    rw [List.take_zero]
    show mkAt (rangeI m) x = mkAt (rangeI m) y ↔ _
    rw [mkAt_range (by omega) (by omega), mkAt_range (by omega) (by omega)]
    omega
  · obtain ⟨t, h⟩ : ∃ t, ts[k]? = some t := ⟨_, List.getElem?_eq_getElem hk⟩
    have hm := marks_len m (ts.take k)
    have c1 := (plN_cast ht (x := 2 * k) (by omega)).1
    have c2 := (plN_cast ht (x := 2 * k + 1) (by omega)).1
    rw [(plc_tie h).1] at c1
    rw [(plc_tie h).2] at c2
    unfold hangR
    rw [marks_take m ts h, mstep_eq (by omega) (by omega), c1, c2]
    generalize mkAt (marks m (ts.take k)) (x : Int) = a
    generalize mkAt (marks m (ts.take k)) (y : Int) = b
    generalize mkAt (marks m (ts.take k)) t.1 = c
    generalize mkAt (marks m (ts.take k)) t.2 = d
    constructor
    · rintro (h | ⟨h1 | h1, h2 | h2⟩)
      · exact .inl h
      · exact .inl (h1.trans h2.symm)
      · exact .inr (.inl ⟨h1, h2.symm⟩)
      · exact .inr (.inr ⟨h1, h2.symm⟩)
      · exact .inl (h1.trans h2.symm)
    · rintro (h | ⟨h1, h2⟩ | ⟨h1, h2⟩)
      · exact .inl h
      · exact .inr ⟨.inl h1, .inr h2.symm⟩
      · exact .inr ⟨.inr h1, .inl h2.symm⟩
theorem marks_tie (ht : TiesOk m ts) {k : Nat} (hk : k < ts.length) : mkAt (marks m ts) (plc ts (2 * k)) = mkAt (marks m ts) (plc ts (2 * k + 1)) := by
  have := (hang ht).tie (fun x hx => (plN_cast ht hx).2) ts.length (Nat.le_refl _) k hk
  unfold hangR at this
  rw [List.take_length, (plN_cast ht (x := 2 * k) (by omega)).1, (plN_cast ht (x := 2 * k + 1) (by omega)).1] at this
  exact this
def faceP (A : Nat → Bool) : List Nat → Bool
  | [] => false
  | x :: _ => A x
end
end Lw
end

section
namespace Lw
open PySem DL
section
variable {m : Int} {ts : List (Int × Int)} {rows : List (List Int)} {Ls : List (List Nat)}
def tiesIn (m : Int) (ts : List (Int × Int)) (f : Int) : Nat := (ts.filter fun t => mkAt (marks m ts) t.1 == f).length
def loneIn (m : Int) (ts : List (Int × Int)) (rows : List (List Int)) (f : Int) : Nat := ((List.range rows.length).filter fun p : Nat => (rows.getD p []).isEmpty && (mkAt (marks m ts) (p : Int) == f)).length
end
end Lw
end

section
namespace Lw
open PySem DL
section
variable {m : Int} {ts : List (Int × Int)} {rows : List (List Int)} {Ls : List (List Nat)}
/-- the list of numbers of parts -/
structure NumOk (m : Int) (ts : List (Int × Int)) (ns : List Int) : Prop where
  len : ns.length = m.toNat
  num : ∀ (p i : Nat), p < m.toNat → (dsort (marks m ts))[i]? = some (mkAt (marks m ts) (p : Int)) → ns[p]? = some (i : Int)
theorem NumOk.at (h : NumOk m ts ns) {a : Int} (ha : 0 ≤ a ∧ a < m) : ∃ i : Nat, (dsort (marks m ts))[i]? = some (mkAt (marks m ts) a) ∧ i < (dsort (marks m ts)).length ∧ ixP (ns.map .int) a = some (.int (i : Int)) := by
  have hml := marks_len m ts
  have hm : mkAt (marks m ts) a ∈ dsort (marks m ts) := dsort_mem.mpr (mkAt_mem ha.1 (by omega))
  obtain ⟨i, hi⟩ := List.mem_iff_getElem?.mp hm
  refine ⟨i, hi, (List.getElem?_eq_some_iff.mp hi).1, ixP_pos ha.1 ?_⟩
  rw [List.getElem?_map, h.num a.toNat i (by omega) (by rw [Int.toNat_of_nonneg ha.1]; exact hi)]
  rfl
end
end Lw
end

section
namespace Lw
open PySem DL
section
variable {m : Int} {ts : List (Int × Int)} {rows : List (List Int)} {Ls : List (List Nat)}
def g1 (m : Int) (ts : List (Int × Int)) (q : Nat) (f : Int) : Int := 2 - (grp (marks m ts) f).length + (((ts.take q).filter fun t => mkAt (marks m ts) t.1 == f).length : Nat)
def g2 (m : Int) (ts : List (Int × Int)) (rows : List (List Int)) (j : Nat) (f : Int) : Int := 2 - (grp (marks m ts) f).length + tiesIn m ts f - (((List.range j).filter fun p : Nat => (rows.getD p []).isEmpty && (mkAt (marks m ts) (p : Int) == f)).length : Nat)
def g3 (m : Int) (ts : List (Int × Int)) (rows : List (List Int)) (Ls : List (List Nat)) (k : Nat) (f : Int) : Int := 2 - (grp (marks m ts) f).length + tiesIn m ts f - loneIn m ts rows f - (((Ls.take k).filter (faceP fun x => mkAt (marks m ts) (plc ts x) == f)).length : Nat)
end
end Lw
end

section
namespace Lw
open PySem DL
section
variable {m : Int} {ts : List (Int × Int)} {rows : List (List Int)} {Ls Ls' : List (List Nat)}
end
end Lw
end

section
namespace Lw
open PySem DL
/-- lists that part [0, N) into rounds of f, each begun with its least -/
structure FP (f : Nat → Nat) (N : Nat) (L : List (List Nat)) : Prop where
  fl : L.flatten.Perm (List.range N)
  st : ∀ l ∈ L, ∀ j x, l[j]? = some x → l[(j + 1) % l.length]? = some (f x)
  hd : ∀ l ∈ L, ∀ x xs, l = x :: xs → ∀ y ∈ xs, x < y
section
variable {f g : Nat → Nat} {N : Nat} {L L' : List (List Nat)}
theorem FP.mem (h : FP f N L) {l : List Nat} {x : Nat} (hl : l ∈ L) (hx : x ∈ l) : x < N := by
  have := h.fl.mem_iff.mp (List.mem_flatten.mpr ⟨l, hl, hx⟩)
  exact List.mem_range.mp this
theorem FP.ex (h : FP f N L) {x : Nat} (hx : x < N) : ∃ l ∈ L, x ∈ l := List.mem_flatten.mp (h.fl.mem_iff.mpr (List.mem_range.mpr hx))
theorem FP.congr (h : FP f N L) (e : ∀ x, x < N → f x = g x) : FP g N L := ⟨h.fl, fun l hl j x hx => by
  rw [← e x (h.mem hl (List.mem_of_getElem? hx))]
  exact h.st l hl j x hx, h.hd⟩
theorem FP.nd (h : FP f N L) : L.flatten.Nodup := h.fl.nodup_iff.mpr List.nodup_range
theorem flat_row_nd : ∀ {L : List (List Nat)}, L.flatten.Nodup → ∀ l ∈ L, l.Nodup
  | [], _, l, h => by cases h
  | a :: L, hn, l, h => by
    rw [List.flatten_cons] at hn
    obtain ⟨n1, n2, n3⟩ := List.nodup_append.mp hn
    rcases List.mem_cons.mp h with rfl | h
    · exact n1
    · exact flat_row_nd n2 l h
/-- what stands in a list is gone through from its head on -/
theorem FP.itr (h : FP f N L) {x : Nat} {xs : List Nat} (hl : (x :: xs) ∈ L) : ∀ j, (x :: xs)[j % (xs.length + 1)]? = some (Lw.itr f j x)
  | 0 => by simp; rfl
  | j + 1 => by
    have ih := h.itr hl j
    have := h.st _ hl _ _ ih
    rw [List.length_cons, Nat.mod_add_mod] at this
    exact this
theorem FP.one (h : FP f N L) (h' : FP f N L') {l : List Nat} (hl : l ∈ L) (hne : l ≠ []) : l ∈ L' := by
  obtain ⟨x, xs, rfl⟩ := List.exists_cons_of_ne_nil hne
  have hx := h.mem hl (List.mem_cons_self ..)
  obtain ⟨k, hk, hxk⟩ := h'.ex hx
  cases k with
  | nil => cases hxk
  | cons y ys =>
    have i1 := h.itr hl
    have i2 := h'.itr hk
    -- each goes through the other
    obtain ⟨j, hj⟩ := List.mem_iff_getElem?.mp hxk
    have hjl := (List.getElem?_eq_some_iff.mp hj).1
    have ej : Lw.itr f j y = x := by
      have := i2 j
      rw [Nat.mod_eq_of_lt (by simpa using hjl), hj] at this
      exact (Option.some.inj this).symm
    have per2 : Lw.itr f (ys.length + 1) y = y := by
      have := i2 (ys.length + 1)
      rw [Nat.mod_self] at this
      exact (Option.some.inj this).symm
    have ey : Lw.itr f (ys.length + 1 - j) x = y := by
      rw [← ej, ← itr_add, show ys.length + 1 - j + j = ys.length + 1 by simp at hjl; omega, per2]
    have hy : y ∈ x :: xs := by
      have := i1 (ys.length + 1 - j)
      rw [ey] at this
      exact List.mem_of_getElem? this
    have exy : x = y := by
      rcases List.mem_cons.mp hy with q | q
      · exact q.symm
      · have a := h.hd _ hl x xs rfl y q
        rcases List.mem_cons.mp hxk with q2 | q2
        · exact q2
        · have b := h'.hd _ hk y ys rfl x q2
          omega
    subst exy
    have nd1 := flat_row_nd h.nd _ hl
    have nd2 := flat_row_nd h'.nd _ hk
    have le : ∀ {a b : List Nat}, (x :: a).Nodup → (∀ j, (x :: a)[j % (a.length + 1)]? = some (Lw.itr f j x)) → (∀ j, (x :: b)[j % (b.length + 1)]? = some (Lw.itr f j x)) → a.length ≤ b.length := fun {a b} nd ia ib => by
      apply Classical.byContradiction
      intro hc
      have h1 := ia (b.length + 1)
      have h2 := ib (b.length + 1)
      rw [Nat.mod_self] at h2
      rw [Nat.mod_eq_of_lt (by omega), ← h2] at h1
      have : (0 : Nat) = b.length + 1 := (List.getElem?_inj (by simp) nd).mp (show (x :: a)[0]? = (x :: a)[b.length + 1]? by rw [h1]; rfl)
      omega
    have el : xs.length = ys.length := Nat.le_antisymm (le nd1 i1 i2) (le nd2 i2 i1)
    have : x :: xs = x :: ys := by
      apply List.ext_getElem?
      intro j
      by_cases hj : j < xs.length + 1
      · have a := i1 j
        have b := i2 j
        rw [Nat.mod_eq_of_lt hj] at a
        rw [Nat.mod_eq_of_lt (by omega)] at b
        rw [a, b]
      · rw [List.getElem?_eq_none (by simp; omega), List.getElem?_eq_none (by simp; omega)]
    rw [this]
    exact hk
theorem ne_nodup : ∀ {L : List (List Nat)}, L.flatten.Nodup → (L.filter fun l => !l.isEmpty).Nodup
  | [], _ => by simp
  | a :: L, hn => by
    rw [List.flatten_cons] at hn
    obtain ⟨n1, n2, n3⟩ := List.nodup_append.mp hn
    have ih := ne_nodup n2
    rw [List.filter_cons]
    split
    · rename_i hne
      refine List.nodup_cons.mpr ⟨fun h => ?_, ih⟩
      obtain ⟨h1, _⟩ := List.mem_filter.mp h
      cases a with
      | nil => simp at hne
      | cons x xs => exact absurd rfl (n3 x (by simp) x (List.mem_flatten.mpr ⟨_, h1, by simp⟩))
    · exact ih
def emp (L : List (List Nat)) : Nat := (L.filter fun l => l.isEmpty).length
theorem FP.uniq (h : FP f N L) (h' : FP f N L') (he : emp L = emp L') : L.Perm L' := by
  have p1 : (L.filter fun l => !l.isEmpty).Perm (L'.filter fun l => !l.isEmpty) := by
    refine (List.perm_ext_iff_of_nodup (ne_nodup h.nd) (ne_nodup h'.nd)).mpr fun l => ?_
    rw [List.mem_filter, List.mem_filter]
    constructor
    · rintro ⟨a, b⟩
      exact ⟨h.one h' a (by rintro rfl; simp at b), b⟩
    · rintro ⟨a, b⟩
      exact ⟨h'.one h a (by rintro rfl; simp at b), b⟩
  have p2 : (L.filter fun l => l.isEmpty) = (L'.filter fun l => l.isEmpty) := by
    have key : ∀ L : List (List Nat), (L.filter fun l => l.isEmpty) = List.replicate (emp L) [] := fun L => by
      refine List.eq_replicate_iff.mpr ⟨rfl, fun l hl => ?_⟩
      have := (List.mem_filter.mp hl).2
      simpa using this
    rw [key L, key L', he]
  have q : ∀ L : List (List Nat), ((L.filter fun l => l.isEmpty) ++ (L.filter fun l => !l.isEmpty)).Perm L := fun L => List.filter_append_perm _ _
  refine (q L).symm.trans (List.Perm.trans ?_ (q L'))
  rw [p2]
  exact List.Perm.append_left _ p1
end
end Lw
end

section
namespace Lw
open PySem DL
section
variable {f g : Nat → Nat} {n : Nat} {L L' : List (List Nat)}
end
section
variable {m : Int} {ts : List (Int × Int)} {rows : List (List Int)} {Ls : List (List Nat)}
end
end Lw
end

section
namespace Lw
open PySem DL
section
variable {m : Int} {ts : List (Int × Int)} {rows : List (List Int)} {Ls : List (List Nat)}
end
end Lw
end

section
namespace Lw
open PySem DL
section
variable {m : Int} {ts : List (Int × Int)} {rows : List (List Int)} {Ls : List (List Nat)}
end
end Lw
end

section
namespace Lw
open PySem DL
theorem TpD.up : ∀ {k : Nat} {d : D}, TpD k d → TpD (k + 1) d
  | _, .int _, _ => trivial
  | k + 1, .tuple ds, h => ⟨h.1, fun d hd => TpD.up (h.2 d hd)⟩
  | 0, .tuple _, h => h.elim
  | 0, .list _, h => h.elim
  | 0, .none, h => h.elim
  | 0, .bool _, h => h.elim
  | 0, .str _, h => h.elim
  | 0, .dict _, h => h.elim
  | _ + 1, .list _, h => h.elim
  | _ + 1, .none, h => h.elim
  | _ + 1, .bool _, h => h.elim
  | _ + 1, .str _, h => h.elim
  | _ + 1, .dict _, h => h.elim
def floorD (m : Int) (ts : List (Int × Int)) (rows : List (List Int)) : D := .tuple [webD m ts, orderD rows]
end Lw
end

section
namespace Lw
open PySem DL
section
variable {f : Nat → Nat} {n : Nat} {L : List (List Nat)}
end
end Lw
end

section
namespace Lw
open PySem DL
/-- lists that part [0, N) into rounds of f, begun anywhere -/
structure FQ (f : Nat → Nat) (N : Nat) (L : List (List Nat)) : Prop where
  fl : L.flatten.Perm (List.range N)
  st : ∀ l ∈ L, ∀ j x, l[j]? = some x → l[(j + 1) % l.length]? = some (f x)
theorem FP.q {f : Nat → Nat} {N : Nat} {L : List (List Nat)} (h : FP f N L) : FQ f N L := ⟨h.fl, h.st⟩
/-- a face as a tuple or a list -/
def faceB (b : Bool) (l : List Nat) : D := if b then tupN l else .list ((intsN l).map .int)
/-- a table: its faces, each a tuple or a list -/
structure TabOk (T : D) (M : List (List Nat)) : Prop where
  ex : ∃ bs : List Bool, bs.length = M.length ∧ (T = .list ((bs.zip M).map fun p => faceB p.1 p.2) ∨ T = .tuple ((bs.zip M).map fun p => faceB p.1 p.2))
theorem TabOk.row {T : D} {M : List (List Nat)} (h : TabOk T M) : ∃ bs : List Bool, bs.length = M.length ∧ rowOf T = some ((bs.zip M).map fun p => faceB p.1 p.2) := by
  obtain ⟨bs, h1, h⟩ := h.ex
  exact ⟨bs, h1, by rcases h with rfl | rfl <;> rfl⟩
section
variable {f : Nat → Nat} {n : Nat} {M : List (List Nat)} {T : D}
end
end Lw
end

section
namespace Lw
open PySem DL
section
variable {f : Nat → Nat} {N B : Nat} {L : List (List Nat)}
theorem orb_head (s : Stp f (· < N) B) {x : Nat} (hx : x < N) : ∃ xs, orb f x = x :: xs := by
  have h0 := orb_get (f := f) (x := x) (n := 0) (by have := (s.per hx).1; omega)
  cases hc : orb f x with
  | nil => rw [hc] at h0; cases h0
  | cons y ys =>
    rw [hc] at h0
    cases h0
    exact ⟨ys, rfl⟩
/-- rounds from their least ones, behind empty lists -/
noncomputable def rowsR (f : Nat → Nat) (e N : Nat) : List (List Nat) := List.replicate e [] ++ (repsN f N).map (orb f)
theorem rowsR_cases (s : Stp f (· < N) B) {e : Nat} {l : List Nat} (h : l ∈ rowsR f e N) : l = [] ∨ ∃ x, x < N ∧ isLo f x ∧ l = orb f x := by
  unfold rowsR at h
  rcases List.mem_append.mp h with h | h
  · exact .inl (List.eq_of_mem_replicate h)
  · obtain ⟨x, hx, rfl⟩ := List.mem_map.mp h
    obtain ⟨h1, h2⟩ := reps_mem.mp hx
    exact .inr ⟨x, h1, h2, rfl⟩
theorem fp_reps (st : Stp f (· < N) B) (e : Nat) : FP f N (rowsR f e N) := by
  refine ⟨?_, fun l hl j x hx => ?_, fun l hl x xs e y hy => ?_⟩
  · refine (List.perm_ext_iff_of_nodup ?_ List.nodup_range).mpr fun z => ?_
    · rw [List.nodup_iff_pairwise_ne, List.pairwise_flatten]
      refine ⟨fun l hl => ?_, ?_⟩
      · rcases rowsR_cases st hl with rfl | ⟨x, hx, _, rfl⟩
        · exact .nil
        · exact List.nodup_iff_pairwise_ne.mp (orb_nodup st hx)
      · unfold rowsR
        rw [List.pairwise_append]
        refine ⟨?_, ?_, ?_⟩
        · refine List.pairwise_of_forall_mem_list fun a ha b _ x hx => ?_
          rw [List.eq_of_mem_replicate ha] at hx
          cases hx
        · rw [List.pairwise_map]
          have nd : (repsN f N).Pairwise (· ≠ ·) := by
            unfold repsN
            exact List.nodup_iff_pairwise_ne.mp (List.nodup_range.filter _)
          refine List.Pairwise.imp_of_mem (fun {a b} ha hb hab x hx y hy e => ?_) nd
          subst e
          obtain ⟨ha1, ha2⟩ := reps_mem.mp ha
          obtain ⟨hb1, hb2⟩ := reps_mem.mp hb
          exact hab (lo_uniq st hb1 (orb_disj st hb1 ha1 hy hx) hb2 ha2)
        · intro a ha b _ x hx
          rw [List.eq_of_mem_replicate ha] at hx
          cases hx
    · rw [List.mem_flatten, List.mem_range]
      constructor
      · rintro ⟨l, hl, he⟩
        rcases rowsR_cases st hl with rfl | ⟨x, hx, _, rfl⟩
        · cases he
        · exact orb_P st hx he
      · intro he
        obtain ⟨i, hi, hlo⟩ := lo_ex st he
        have he2 := st.itr he i
        refine ⟨orb f (itr f i z), ?_, orb_symm st he ((mem_orb st he).mpr ⟨i, rfl⟩)⟩
        unfold rowsR
        exact List.mem_append.mpr (.inr (List.mem_map.mpr ⟨_, reps_mem.mpr ⟨he2, hlo⟩, rfl⟩))
  · rcases rowsR_cases st hl with rfl | ⟨z, hz, hlo, rfl⟩
    · simp at hx
    · have hj := (List.getElem?_eq_some_iff.mp hx).1
      rw [orb_len] at hj ⊢
      rw [orb_get hj] at hx
      cases hx
      have hp := st.per hz
      rw [orb_get (Nat.mod_lt _ hp.1), ← st.mod hz]
      rfl
  · rcases rowsR_cases st hl with rfl | ⟨z, hz, hlo, rfl⟩
    · cases e
    · obtain ⟨zs, h0⟩ := orb_head st hz
      have nd := orb_nodup st hz
      rw [h0] at e nd
      cases e
      have h1 := hlo y (by rw [h0]; exact List.mem_cons_of_mem _ hy)
      have : x ≠ y := fun w => (List.nodup_cons.mp nd).1 (w ▸ hy)
      omega
/-- a list that parts is its head's round -/
theorem FP.orb (h : FP f N L) (st : Stp f (· < N) B) {x : Nat} {xs : List Nat} (hl : (x :: xs) ∈ L) : x :: xs = Lw.orb f x := by
  have h2 : FP f N (rowsR f 0 N) := fp_reps st 0
  have hm := h.one h2 hl (by simp)
  rcases rowsR_cases st hm with q | ⟨z, hz, _, q⟩
  · cases q
  · obtain ⟨zs, h3⟩ := orb_head st hz
    rw [h3] at q
    cases q
    rw [h3]
end
section
variable {f : Nat → Nat} {n B : Nat} {M : List (List Nat)} {T : D}
end
end Lw
end

section
namespace Lw
open PySem DL
section
variable {m : Int} {ts : List (Int × Int)}
end
end Lw
end

section
namespace Lw
open PySem DL
section
variable {ts : List (Int × Int)} {zs : List Int} {f : Nat}
inductive WayTo (ts : List (Int × Int)) (f : Nat) : Nat → List Nat → Prop
  | nil : WayTo ts f f []
  | snoc {p q e : Nat} {w : List Nat} : WayTo ts f p w → e < 2 * ts.length → plc ts e = (p : Int) → plc ts (ptn e) = (q : Int) → WayTo ts f q (w ++ [e])
/-- the crossings met on a way -/
def wCr (zs : List Int) (w : List Nat) : Int := (w.map fun e => zs.getD (e / 2) 0).sum
theorem wCr_snoc {w : List Nat} {e : Nat} : wCr zs (w ++ [e]) = wCr zs w + zs.getD (e / 2) 0 := by simp [wCr]
theorem WayTo.all {q : Nat} {w : List Nat} (h : WayTo ts f q w) : ∀ e ∈ w, e < 2 * ts.length := by
  induction h with
  | nil => simp
  | snoc _ he _ _ ih =>
    intro x hx
    rcases List.mem_append.mp hx with h | h
    · exact ih x h
    · rw [List.mem_singleton.mp h]; exact he
/-- given sides that are right at all ties give the parity of every way -/
theorem WayTo.side {g : Nat → Int} (hg : ∀ e p q : Nat, e < 2 * ts.length → plc ts e = (p : Int) → plc ts (ptn e) = (q : Int) → (g p + zs.getD (e / 2) 0) % 2 = g q % 2) {q : Nat} {w : List Nat} (h : WayTo ts f q w) : (g f + wCr zs w) % 2 = g q % 2 := by
  induction h with
  | nil => simp [wCr]
  | snoc _ he h1 h2 ih =>
    have := hg _ _ _ he h1 h2
    rw [wCr_snoc]
    omega
end
end Lw
end

section
namespace Lw
open PySem DL
section
variable {m : Int} {ts : List (Int × Int)} {zs : List Int} {f : Nat}
/-- a place with its side and its way -/
abbrev Pw := Nat × Int × List Nat
/-- what is known of the places found: k of them are gone through, of the next one's ends those in `done` -/
structure WL (m : Int) (ts : List (Int × Int)) (zs : List Int) (f : Nat) (L : List Pw) (k : Nat) (dn : List Nat) : Prop where
  nd : (L.map (·.1)).Nodup
  hd : L[0]? = some (f, 0, [])
  ok : ∀ t ∈ L, (t.1 : Int) < m ∧ t.2.1 = wCr zs t.2.2 % 2 ∧ WayTo ts f t.1 t.2.2
  kl : k ≤ L.length
  sh : ∀ t ∈ L, t.2.2.length < L.length
  cl : ∀ i t, i < k → L[i]? = some t → ∀ e q : Nat, e < 2 * ts.length → plc ts e = (t.1 : Int) → plc ts (ptn e) = (q : Int) → q ∈ L.map (·.1)
  cn : ∀ e ∈ dn, ∀ q : Nat, plc ts (ptn e) = (q : Int) → q ∈ L.map (·.1)
theorem WL.next {L : List Pw} {k : Nat} {dn : List Nat} (h : WL m ts zs f L k dn) (hk : k < L.length) (hdn : ∀ t, L[k]? = some t → ∀ e, e < 2 * ts.length → plc ts e = (t.1 : Int) → e ∈ dn) : WL m ts zs f L (k + 1) [] := by
  refine ⟨h.nd, h.hd, h.ok, by omega, h.sh, fun i t hi e1 e q he h1 h2 => ?_, by simp⟩
  by_cases hik : i < k
  · exact h.cl i t hik e1 e q he h1 h2
  · have : i = k := by omega
    subst this
    exact h.cn e (hdn t e1 e he h1) q h2
end
end Lw
end

section
namespace Lw
open PySem DL
section
variable {L : List Pw}
end
end Lw
end

section
namespace Lw
open PySem DL
section
variable {m : Int} {ts : List (Int × Int)} {zs : List Int} {f : Nat}
theorem WL.few {L : List Pw} {k : Nat} {dn : List Nat} (h : WL m ts zs f L k dn) (hk : k < L.length) : (k : Int) < m := by
  have h2 := nodup_len m.toNat (L.map (·.1)) h.nd fun x hx => by
    obtain ⟨t, ht, rfl⟩ := List.mem_map.mp hx
    have := (h.ok t ht).1
    omega
  rw [List.length_map] at h2
  omega
end
end Lw
end

section
namespace Lw
open PySem DL
section
variable {m : Int} {ts : List (Int × Int)} {zs : List Int} {f : Nat}
theorem mark_min (ht : TiesOk m ts) {Q : Nat → Nat → Prop} (rf : ∀ x, Q x x) (sy : ∀ x y, Q x y → Q y x) (tr : ∀ x y z, Q x y → Q y z → Q x z) (tie : ∀ k, k < ts.length → Q (plN ts (2 * k)) (plN ts (2 * k + 1))) {x y : Nat} (hx : x < m.toNat) (hy : y < m.toNat)
    (h : mkAt (marks m ts) (x : Int) = mkAt (marks m ts) (y : Int)) : Q x y := by
  have hg := hang ht
  have key : ∀ k, k ≤ ts.length → ∀ x y, x < m.toNat → y < m.toNat → hangR m ts k x y → Q x y := fun k => by
    induction k with
    | zero => exact fun _ x y hx hy h => ((hg.zero x y hx hy).mp h) ▸ rf x
    | succ k ih =>
      intro hk x y hx hy h
      have q0 := tie k (by omega)
      have b1 := (plN_cast ht (x := 2 * k) (by omega)).2
      have b2 := (plN_cast ht (x := 2 * k + 1) (by omega)).2
      rcases (hg.succ k (by omega) x y hx hy).mp h with h | ⟨h1, h2⟩ | ⟨h1, h2⟩
      · exact ih (by omega) x y hx hy h
      · exact tr _ _ _ (ih (by omega) _ _ hx b1 h1) (tr _ _ _ q0 (ih (by omega) _ _ b2 hy h2))
      · exact tr _ _ _ (ih (by omega) _ _ hx b2 h1) (tr _ _ _ (sy _ _ q0) (ih (by omega) _ _ b1 hy h2))
  refine key ts.length (Nat.le_refl _) x y hx hy ?_
  unfold hangR
  rw [List.take_length]
  exact h
theorem WayTo.mark (ht : TiesOk m ts) {q : Nat} {w : List Nat} (h : WayTo ts f q w) : mkAt (marks m ts) (q : Int) = mkAt (marks m ts) (f : Int) := by
  induction h with
  | nil => rfl
  | snoc _ he h1 h2 ih =>
    rename_i p q e w _
    have h := marks_tie ht (k := e / 2) (by omega)
    rw [← ih, ← h1, ← h2]
    unfold ptn
    by_cases hx2 : e % 2 = 0
    · rw [if_pos hx2]
      rw [show 2 * (e / 2) = e by omega] at h
      exact h.symm
    · rw [if_neg hx2]
      rw [show 2 * (e / 2) + 1 = e by omega, show 2 * (e / 2) = e - 1 by omega] at h
      exact h
theorem WL.all (ht : TiesOk m ts) {L : List Pw} (h : WL m ts zs f L L.length []) {q : Nat} (hq : (q : Int) < m) : q ∈ L.map (·.1) ↔ mkAt (marks m ts) (q : Int) = mkAt (marks m ts) (f : Int) := by
  have h0 := h.ok _ (List.mem_of_getElem? h.hd)
  have hf : f ∈ L.map (·.1) := List.mem_map_of_mem (f := fun t : Pw => t.1) (List.mem_of_getElem? h.hd)
  have hf2 : (f : Int) < m := h0.1
  have cl : ∀ e, e < 2 * ts.length → plN ts e ∈ L.map (·.1) → plN ts (ptn e) ∈ L.map (·.1) := fun e he hp => by
    obtain ⟨t, ht1, ht2⟩ := List.mem_map.mp hp
    obtain ⟨i, hi⟩ := List.mem_iff_getElem?.mp ht1
    have hpt : ptn e < 2 * ts.length := by unfold ptn; split <;> omega
    exact h.cl i t (List.getElem?_eq_some_iff.mp hi).1 hi e (plN ts (ptn e)) he (by rw [← (plN_cast ht he).1, ht2]) (plN_cast ht hpt).1.symm
  constructor
  · intro hm
    obtain ⟨t, ht1, rfl⟩ := List.mem_map.mp hm
    exact (h.ok t ht1).2.2.mark ht
  · intro he
    refine (mark_min ht (Q := fun x y => x ∈ L.map (fun t : Pw => t.1) ↔ y ∈ L.map (fun t : Pw => t.1)) (fun _ => Iff.rfl) (fun _ _ h => h.symm) (fun _ _ _ h1 h2 => h1.trans h2) (fun k hk => ?_) (by omega) (by omega) he).mpr hf
    constructor
    · intro h1
      have := cl (2 * k) (by omega) h1
      rwa [show ptn (2 * k) = 2 * k + 1 by unfold ptn; rw [if_pos (by omega)]] at this
    · intro h1
      have := cl (2 * k + 1) (by omega) h1
      rwa [show ptn (2 * k + 1) = 2 * k by unfold ptn; rw [if_neg (by omega)]; omega] at this
end
end Lw
end

section
namespace Lw
open PySem DL
section
variable {m : Int} {ts : List (Int × Int)} {zs : List Int} {f : Nat} {L : List Pw}
end
end Lw
end

section
namespace Lw
open PySem DL
section
variable {m : Int} {ts : List (Int × Int)} {zs : List Int} {f : Nat}
/-- ends that lead round, crossed an odd number of times -/
structure RingR (ts : List (Int × Int)) (zs ns : List Int) : Prop where
  ne : ns ≠ []
  bd : ∀ n ∈ ns, 0 ≤ n ∧ n < 2 * (ts.length : Int)
  rd : ∀ (k : Nat) (e e' : Int), ns[k]? = some e → ns[(k + ns.length - 1) % ns.length]? = some e' → plc ts e.toNat = plc ts (ptn e'.toNat)
  od : (ns.map fun e => zs.getD (e.toNat / 2) 0).sum % 2 = 1
/-- right sides -/
structure TwoR (m : Int) (ts : List (Int × Int)) (zs gs : List Int) : Prop where
  len : gs.length = m.toNat
  ok : ∀ g ∈ gs, g = 0 ∨ g = 1
  fst : ∀ f ∈ dsort (marks m ts), ∀ a l, grp (marks m ts) f = a :: l → gs.getD a.toNat 0 = 0
  tie : ∀ (k : Nat) (t : Int × Int), ts[k]? = some t → (gs.getD t.1.toNat 0 + zs.getD k 0 + gs.getD t.2.toNat 0) % 2 = 0
def tupZ (ns : List Int) : D := .tuple (ns.map .int)
def oneD (ns : List Int) : D := .tuple [.str (Str.ofString "one"), tupZ ns]
def twoD (gs : List Int) : D := .tuple [.str (Str.ofString "two"), tupZ gs]
theorem WayTo.back {q : Nat} {w : List Nat} (h : WayTo ts f q w) : ∀ {g : Nat} {u : List Nat}, WayTo ts g q u → WayTo ts g f (u ++ w.reverse.map ptn) := by
  induction h with
  | nil => intro g u hu; simpa using hu
  | snoc hw he h1 h2 ih =>
    rename_i p q e w
    intro g u hu
    have hpe : ptn e < 2 * ts.length := ptn_lt he
    have := ih (hu.snoc hpe h2 (by rw [ptn_ptn]; exact h1))
    simpa [List.append_assoc] using this
end
end Lw
end

section
namespace Lw
open PySem DL
section
variable {m : Int} {ts : List (Int × Int)} {zs : List Int} {f : Nat}
/-- the first j parts have their sides -/
structure Gv (m : Int) (ts : List (Int × Int)) (zs : List Int) (j : Nat) (gs : List Int) : Prop where
  len : gs.length = m.toNat
  ok : ∀ g ∈ gs, g = 0 ∨ g = 1
  fst : ∀ (i : Nat) (f : Int), i < j → (dsort (marks m ts))[i]? = some f → ∀ a l, grp (marks m ts) f = a :: l → gs.getD a.toNat 0 = 0
  tie : ∀ (k : Nat) (t : Int × Int), ts[k]? = some t → (∃ i, i < j ∧ (dsort (marks m ts))[i]? = some (mkAt (marks m ts) t.1)) → (gs.getD t.1.toNat 0 + zs.getD k 0 + gs.getD t.2.toNat 0) % 2 = 0
/-- what sides tells -/
def SidesR (m : Int) (ts : List (Int × Int)) (zs : List Int) (d : D) : Prop := (∃ ns, d = oneD ns ∧ ns.length ≤ 1000 ∧ RingR ts zs ns) ∨ ∃ gs, d = twoD gs ∧ TwoR m ts zs gs
theorem Gv.two (ht : TiesOk m ts) {gs : List Int} (h : Gv m ts zs (dsort (marks m ts)).length gs) : TwoR m ts zs gs := by
  refine ⟨h.len, h.ok, fun f hf a l e => ?_, fun k t hk => ?_⟩
  · obtain ⟨i, hi⟩ := List.mem_iff_getElem?.mp hf
    exact h.fst i f (List.getElem?_eq_some_iff.mp hi).1 hi a l e
  · have htm := ht t (List.mem_of_getElem? hk)
    have : mkAt (marks m ts) t.1 ∈ dsort (marks m ts) := dsort_mem.mpr (List.mem_of_getElem? (mkAt_ok htm.1.1 (by rw [marks_len]; omega)).2)
    obtain ⟨i, hi⟩ := List.mem_iff_getElem?.mp this
    exact h.tie k t hk ⟨i, (List.getElem?_eq_some_iff.mp hi).1, hi⟩
/-- one part more -/
theorem Gv.next (ht : TiesOk m ts) {gs g2 : List Int} {j a : Nat} {g : Int} {l : List Int} {L : List Pw} (h : Gv m ts zs j gs) (hj : (dsort (marks m ts))[j]? = some g) (hg : grp (marks m ts) g = (a : Int) :: l) (hma : mkAt (marks m ts) (a : Int) = g) (hw : WL m ts zs a L L.length []) (hl : g2.length = m.toNat) (ho : ∀ x ∈ g2, x = 0 ∨ x = 1)
    (h1 : ∀ t : Pw, t ∈ L → g2.getD t.1 0 = t.2.1) (h2 : ∀ q : Nat, (q : Int) ∉ grp (marks m ts) g → g2.getD q 0 = gs.getD q 0)
    (h3 : ∀ (k' : Nat) (t : Int × Int), ts[k']? = some t → t.1.toNat ∈ L.map (fun u : Pw => u.1) → (g2.getD t.1.toNat 0 + zs.getD k' 0 + g2.getD t.2.toNat 0) % 2 = 0) : Gv m ts zs (j + 1) g2 := by
  have nd : (dsort (marks m ts)).Nodup := (dsort_pw _).imp fun h => by omega
  have other : ∀ (i : Nat) (f : Int), i < j → (dsort (marks m ts))[i]? = some f → f ≠ g := fun i f hi e1 e2 => by
    subst e2
    have := (List.getElem?_inj (List.getElem?_eq_some_iff.mp e1).1 nd).mp (e1.trans hj.symm)
    omega
  refine ⟨hl, ho, fun i f hi hf b l' hb => ?_, fun k t hk ⟨i, hi, hf⟩ => ?_⟩
  · have hbm : b ∈ grp (marks m ts) f := by rw [hb]; exact List.mem_cons_self
    obtain ⟨b0, b1, b2⟩ := grp_mem.mp hbm
    by_cases hij : i < j
    · rw [h2 b.toNat fun hm => other i f hij hf (by rw [← b2]; have := (grp_mem.mp hm).2.2; rw [show ((b.toNat : Nat) : Int) = b by omega] at this; exact this)]
      exact h.fst i f hij hf b l' hb
    · have : i = j := by omega
      subst this
      rw [hj] at hf
      cases hf
      rw [hg] at hb
      cases hb
      have := h1 _ (List.mem_of_getElem? hw.hd)
      rw [Int.toNat_natCast]
      exact this
  · have htm := ht t (List.mem_of_getElem? hk)
    have hkl := (List.getElem?_eq_some_iff.mp hk).1
    have mt := marks_tie ht hkl
    rw [(plc_tie hk).1, (plc_tie hk).2] at mt
    by_cases hij : i < j
    · have q1 : ∀ x : Int, 0 ≤ x → mkAt (marks m ts) x = mkAt (marks m ts) t.1 → g2.getD x.toNat 0 = gs.getD x.toNat 0 := fun x hx e => h2 x.toNat fun hm => other i _ hij hf (by
        have := (grp_mem.mp hm).2.2
        rw [show ((x.toNat : Nat) : Int) = x by omega, e] at this
        exact this)
      rw [q1 t.1 htm.1.1 rfl, q1 t.2 htm.2.1 mt.symm]
      exact h.tie k t hk ⟨i, hij, hf⟩
    · have : i = j := by omega
      subst this
      rw [hj] at hf
      injection hf with hf
      refine h3 k t hk ((hw.all ht (by omega)).mpr ?_)
      rw [show ((t.1.toNat : Nat) : Int) = t.1 by omega, ← hf, hma]
end
end Lw
end

section
namespace Lw
open PySem DL
section
variable {m : Int} {ts : List (Int × Int)} {zs : List Int}
end
end Lw
end

section
namespace Lw
open PySem DL
section
variable {m : Int} {ts : List (Int × Int)} {zs : List Int}
end
end Lw
end

section
namespace Lw
open PySem DL
end Lw
end

section
namespace Lw
open PySem DL
section
variable {m : Int} {ts : List (Int × Int)} {zs : List Int}
theorem okD_st {x : Str} (h : PyData.strOk x = true) : okD (.str x) = true := by
  unfold okD PyData.canLay0 PyData.depth
  rw [h]; rfl
theorem gEq_st {x y : Str} {b : Bool} (h1 : PyData.strOk x = true) (h2 : PyData.strOk y = true) (h : PyData.eqv (.str x) (.str y) = b) : gEq [.fz (.str x), .fz (.str y)] = some (.val (.bool b)) := by
  show (if okD (.str x) && okD (.str y) then some (RV.val (.bool (PyData.eqv (.str x) (.str y)))) else none) = _
  rw [okD_st h1, okD_st h2, h]
  rfl
end
end Lw
end

section
namespace Lw
open PySem DL
section
variable {m : Int} {ts : List (Int × Int)} {zs : List Int}
end
end Lw
end

section
namespace Lw
open PySem DL
section
variable {m : Int} {ts : List (Int × Int)} {zs : List Int}
/-- data that can be laid, so deep -/
def LayD (k : Nat) (d : D) : Prop := d.canLay0 = true ∧ d.depth ≤ k
theorem LayD.gEq {k : Nat} {d : D} (h : LayD k d) (hk : k ≤ 40) : gEq [.fz d, .fz d] = some (.val (.bool true)) := by
  have o : DL.okD d = true := by unfold DL.okD; rw [h.1, decide_eq_true (by have := h.2; omega)]; rfl
  show (if DL.okD d && DL.okD d then some (RV.val (.bool (PyData.eqv d d))) else none) = _
  rw [o, PySem.SeqAt.eqv_refl d h.1]
  rfl
theorem LayD.gNe {k : Nat} {d : D} (h : LayD k d) (hk : k ≤ 40) : gNe [.fz d, .fz d] = some (.val (.bool false)) := by
  have o : DL.okD d = true := by unfold DL.okD; rw [h.1, decide_eq_true (by have := h.2; omega)]; rfl
  show (if DL.okD d && DL.okD d then some (RV.val (.bool (!PyData.eqv d d))) else none) = _
  rw [o, PySem.SeqAt.eqv_refl d h.1]
  rfl
theorem LayD.list {k : Nat} {ds : List D} (h : ∀ d ∈ ds, LayD k d) : LayD (k + 1) (.list ds) := by
  refine ⟨by simp only [PyData.canLay0]; exact lay_all fun d hd => (h d hd).1, ?_⟩
  simp only [PyData.depth]
  have := dep_all (k := k) fun d hd => (h d hd).2
  omega
theorem LayD.tuple {k : Nat} {ds : List D} (h : ∀ d ∈ ds, LayD k d) : LayD (k + 1) (.tuple ds) := by
  refine ⟨by simp only [PyData.canLay0]; exact lay_all fun d hd => (h d hd).1, ?_⟩
  simp only [PyData.depth]
  have := dep_all (k := k) fun d hd => (h d hd).2
  omega
theorem LayD.int {k : Nat} {n : Int} : LayD k (.int n) := ⟨by simp [PyData.canLay0], by simp [PyData.depth]⟩
theorem LayD.str {k : Nat} {x : Str} (h : PyData.strOk x = true) : LayD k (.str x) := ⟨by simp [PyData.canLay0, h], by simp [PyData.depth]⟩
theorem LayD.tupZ {k : Nat} {ns : List Int} : LayD (k + 1) (tupZ ns) := LayD.tuple fun d hd => by
  obtain ⟨n, _, rfl⟩ := List.mem_map.mp hd
  exact LayD.int
theorem oneD_lay {ns : List Int} : LayD 2 (oneD ns) := LayD.tuple fun d hd => by
  rcases List.mem_cons.mp hd with rfl | hd
  · exact LayD.str (by decide +kernel)
  · rw [List.mem_singleton.mp hd]; exact LayD.tupZ
theorem twoD_lay {ns : List Int} : LayD 2 (twoD ns) := LayD.tuple fun d hd => by
  rcases List.mem_cons.mp hd with rfl | hd
  · exact LayD.str (by decide +kernel)
  · rw [List.mem_singleton.mp hd]; exact LayD.tupZ
theorem SidesR.lay {d : D} (h : SidesR m ts zs d) : LayD 2 d := by
  rcases h with ⟨_, rfl, _⟩ | ⟨_, rfl, _⟩
  · exact oneD_lay
  · exact twoD_lay
end
end Lw
end

section
namespace Lw
open PySem DL
end Lw
end

section
namespace Lw
open PySem DL
end Lw
end

section
namespace Lw
open PySem DL
end Lw
end

section
namespace Lw
open PySem DL
section
variable {m : Int} {ts : List (Int × Int)}
end
end Lw
end

section
namespace Lw
open PySem DL
def fct : Nat → Nat
  | 0 => 1
  | n + 1 => (n + 1) * fct n
/-- the n-th of all orders of a list of so many -/
def prm : Nat → List Int → Nat → List Int
  | 0, _, _ => []
  | k + 1, l, n => match l[n / fct k]? with
    | some x => x :: prm k (l.eraseIdx (n / fct k)) (n % fct k)
    | none => []
def rowAt (E : List Int) (n : Nat) : List Int := E.take 1 ++ prm (E.length - 1) (E.drop 1) n
/-- a row, each end that isn't in it behind it -/
def ext (E row : List Int) : List (List Int) := (E.filter fun e => !row.contains e).map fun e => row ++ [e]
end Lw
end

section
namespace Lw
open PySem DL
section
variable {m : Int} {ts : List (Int × Int)}
/-- how many rows a place's ends have; the places ahead together -/
def wR (ts : List (Int × Int)) (p : Nat) : Nat := fct ((endsI ts p).length - 1)
def ordA (ts : List (Int × Int)) : Nat → Nat → List (List Int)
  | 0, _ => []
  | p + 1, n => ordA ts p (n / wR ts p) ++ [rowAt (endsI ts p) (n % wR ts p)]
end
end Lw
end

section
namespace Lw
open PySem DL
set_option exponentiation.threshold 400
section
variable {m : Int} {ts : List (Int × Int)}
end
end Lw
end

section
namespace Lw
open PySem DL
section
variable {m : Int} {ts : List (Int × Int)}
/-- the holes of the order of a number -/
noncomputable def hN (m : Int) (ts : List (Int × Int)) (n : Nat) : Int := twiceN m ts (ordA ts m.toNat n) / 2
end
end Lw
end

section
namespace Lw
open PySem DL
section
variable {m : Int} {ts : List (Int × Int)}
end
end Lw
end

section
namespace Lw
open PySem DL
end Lw
end

section
namespace Lw
open PySem DL
def srtI (l : List Int) : List Int := l.mergeSort fun a b => decide (a ≤ b)
section
variable {ts : List (Int × Int)}
end
end Lw
end

section
namespace Lw
open PySem DL
section
variable {m : Int} {ts : List (Int × Int)}
end
end Lw
end

section
namespace Lw
open PySem DL
def Ls (x : Sl) (L : List D) : Prop := x = .own false (.lst L) ∨ x = .frz false (.list L)
theorem Ls.fr {x : Sl} {L : List D} (h : Ls x L) : Fr x := by rcases h with rfl | rfl <;> first | exact .lst | exact .frz
section
variable {m : Int} {ts : List (Int × Int)}
theorem endsI_nd (p : Int) : (endsI ts p).Nodup := List.nodup_iff_pairwise_ne.mpr ((endsI_pw ts p).imp fun h => by omega)
end
end Lw
end

section
namespace Lw
open PySem DL
section
variable {m : Int} {ts : List (Int × Int)} {rows : List (List Int)}
theorem row_perm {q : Nat} {row : List Int} (h : RowN ts (2 * ts.length) q row) : row.Perm (endsI ts q) := by
  rw [List.perm_ext_iff_of_nodup h.nd (endsI_nd _)]
  intro a
  rw [h.mem, endsI_mem]
  constructor <;> (rintro ⟨a, b, c⟩; exact ⟨a, by omega, c⟩)
end
end Lw
end

section
namespace Lw
open PySem DL
end Lw
end

section
namespace Lw
open PySem DL
section
variable {m : Int} {ts : List (Int × Int)} {rows : List (List Int)}
end
end Lw
end

section
namespace Lw
open PySem DL
end Lw
end

section
namespace Lw
open PySem DL
end Lw
end

section
namespace Lw
open PySem DL
end Lw
end

section
namespace Lw
open PySem DL
structure Tx (k w : Nat) (d : D) : Prop where
  dep : d.depth ≤ k
  sho : PyData.showable d = true
  lea : PyData.leavesShort 60 d = true
  bul : PyData.bulk d ≤ w
theorem tx_int {i : Int} {k w : Nat} (h : i.natAbs < 10 ^ 40) : Tx k w (.int i) := by
  refine ⟨Nat.zero_le _, ?_, ?_, Nat.zero_le _⟩
  · unfold PyData.showable
    by_cases h0 : i = 0
    · subst h0; decide
    · have : i.natAbs.log2 < 200 := (Nat.log2_lt (by omega)).mpr (Nat.lt_of_lt_of_le h (by decide))
      exact decide_eq_true (by omega)
  · unfold PyData.leavesShort
    have e := int_text_length_le10 (k := 40) (by decide) h
    refine decide_eq_true ?_
    show (Str.ofString (toString i)).length ≤ 60
    rw [ofString_length]
    omega
theorem tx_all {w k : Nat} : ∀ {ds : List D}, (∀ d ∈ ds, Tx k w d) → PyData.depthAll ds ≤ k ∧ PyData.showableAll ds = true ∧ PyData.leavesShortAll 60 ds = true ∧ PyData.bulkAll ds ≤ (w + 1) * ds.length
  | [], _ => ⟨Nat.zero_le _, rfl, rfl, Nat.zero_le _⟩
  | d :: ds, h => by
    obtain ⟨h2, h3, h4, h5⟩ := tx_all (ds := ds) fun e he => h e (List.mem_cons_of_mem _ he)
    have a := h d (List.mem_cons_self ..)
    refine ⟨?_, ?_, ?_, ?_⟩
    · unfold PyData.depthAll; exact Nat.max_le.mpr ⟨a.dep, h2⟩
    · unfold PyData.showableAll; rw [a.sho, h3]; rfl
    · unfold PyData.leavesShortAll; rw [a.lea, h4]; rfl
    · unfold PyData.bulkAll
      have := a.bul
      rw [List.length_cons, Nat.mul_succ]
      omega
theorem tx_list {w k n : Nat} {ds : List D} (h : ∀ d ∈ ds, Tx k w d) (hn : ds.length ≤ n) : Tx (k + 1) ((w + 1) * n) (.list ds) := by
  obtain ⟨h2, h3, h4, h5⟩ := tx_all h
  have m : (w + 1) * ds.length ≤ (w + 1) * n := Nat.mul_le_mul_left _ hn
  exact ⟨by unfold PyData.depth; omega, by unfold PyData.showable; exact h3, by unfold PyData.leavesShort; exact h4, by unfold PyData.bulk; omega⟩
theorem tx_tuple {w k n : Nat} {ds : List D} (h : ∀ d ∈ ds, Tx k w d) (hn : ds.length ≤ n) : Tx (k + 1) ((w + 1) * n) (.tuple ds) := by
  obtain ⟨h2, h3, h4, h5⟩ := tx_all h
  have m : (w + 1) * ds.length ≤ (w + 1) * n := Nat.mul_le_mul_left _ hn
  exact ⟨by unfold PyData.depth; omega, by unfold PyData.showable; exact h3, by unfold PyData.leavesShort; exact h4, by unfold PyData.bulk; omega⟩
theorem Tx.le {k k' w w' : Nat} {d : D} (h : Tx k w d) (hk : k ≤ k') (hw : w ≤ w') : Tx k' w' d := ⟨Nat.le_trans h.dep hk, h.sho, h.lea, Nat.le_trans h.bul hw⟩
theorem Tx.len {k w : Nat} {d : D} (h : Tx k w d) (hw : w ≤ 200000) : (PyData.shown d).length ≤ lineD := by
  have lb : (lineD : Nat) = 16777216 := rfl
  have := PyData.shown_le_bulk 60 (by omega) d h.lea
  have := h.bul
  omega
theorem canLayAll_mem {ds : List D} : (∀ d ∈ ds, d.canLay0 = true) → PyData.canLayAll0 ds = true := by
  induction ds with
  | nil => intro _; rfl
  | cons d ds ih =>
    intro h
    unfold PyData.canLayAll0
    rw [h d List.mem_cons_self, ih fun e he => h e (List.mem_cons_of_mem _ he)]
    rfl
theorem dR_lay {k w : Nat} {d : D} (h : Tx k w d) (hk : k ≤ 40) (hw : w ≤ 200000) (hr : isRow d = true) (hl : d.canLay0 = true) : DL.shR d = true := by
  have hd : d.depth ≤ 40 := Nat.le_trans h.dep hk
  unfold DL.shR okE
  rw [hr, hl, decide_eq_true hd, h.sho, decide_eq_true (h.len hw)]
  rfl
theorem dR_layT {k w : Nat} {d : D} (h : Tx k w d) (hk : k ≤ 40) (hw : w ≤ 200000) (hr : isRowT d = true) (hl : layT d = true) : DL.shR d = true := by
  have hd : d.depth ≤ 40 := Nat.le_trans h.dep hk
  unfold DL.shR
  rw [hr, hl, decide_eq_true hd, h.sho, decide_eq_true (h.len hw)]
  simp
/-- texts of rows of whole numbers -/
theorem strOk_of (s : String) : PyData.strOk (Str.ofString s) = true := by
  rw [Str.ofString_eq_toList]
  unfold PyData.strOk
  rw [Array.all_eq_true_iff_forall_mem]
  intro c hc
  have hc : c ∈ s.toList.map Char.toNat := by simpa using hc
  obtain ⟨x, _, rfl⟩ := List.mem_map.mp hc
  refine decide_eq_true ?_
  have h := x.valid
  show x.val.toNat < 0x110000
  rcases h with h | h
  · have : x.val.toNat < 55296 := h
    omega
  · have : x.val.toNat < 0x110000 := h.2
    exact this
theorem strOk_app {a b : Str} (ha : PyData.strOk a = true) (hb : PyData.strOk b = true) : PyData.strOk (a ++ b) = true := by
  unfold PyData.strOk at *
  show (a.cps ++ b.cps).all _ = true
  rw [Array.all_append, ha, hb]
  rfl
theorem strOk_join {s : Str} (hs : PyData.strOk s = true) : ∀ {l : List Str}, (∀ y ∈ l, PyData.strOk y = true) → PyData.strOk (Str.join s l) = true
  | [], _ => by unfold Str.join; simp [PyData.strOk, Str.empty]
  | [x], h => by unfold Str.join; exact h x List.mem_cons_self
  | x :: y :: r, h => by
    rw [Str.join]
    · exact strOk_app (strOk_app (h x List.mem_cons_self) hs) (strOk_join hs fun z hz => h z (List.mem_cons_of_mem _ hz))
    · intro e; cases e
end Lw
end

section
namespace Lw
open PySem DL
open TL in
theorem join_one (sp : Str) (hs : sp = Str.ofString " ") : ∀ (x : Str) (ys : List Str), Str.join sp (x :: ys) = x ++ Str.join (Str.ofString "") (ys.map fun y => sp ++ y)
  | x, [] => by
    refine ext_tl ?_
    rw [tl_append, tl_join, tl_join]
    simp [joinL]
  | x, y :: ys => by
    have ih := join_one sp hs y ys
    refine ext_tl ?_
    have ih := congrArg tl ih
    rw [tl_append, tl_join, tl_join] at ih ⊢
    have e0 : tl (Str.ofString "") = [] := tl_ofString ""
    rw [e0] at ih ⊢
    have hj : ∀ (z : List Nat) (zs : List (List Nat)), joinL [] (z :: zs) = z ++ joinL [] zs := fun z zs => by
      cases zs with
      | nil => simp [joinL]
      | cons w ws => simp [joinL]
    rw [List.map_cons, List.map_cons, List.map_cons, List.map_cons, hj, tl_append]
    rw [List.map_cons] at ih
    have h2 : joinL (tl sp) (tl x :: tl y :: ys.map tl) = tl x ++ tl sp ++ joinL (tl sp) (tl y :: ys.map tl) := by simp [joinL]
    rw [h2, ih]
    simp [List.append_assoc]
def sI (i : Int) : Str := Str.ofString (toString i)
def SmI (i : Int) : Prop := i.natAbs < 10 ^ 12
theorem sI_len {i : Int} (h : SmI i) : (sI i).length ≤ 13 := by
  unfold sI
  rw [ofString_length]
  have := int_text_length_le10 (k := 12) (by decide) h
  omega
theorem sI_ok {i : Int} (h : SmI i) : gStrI [.fz (.int i)] = some (.val (.str (sI i))) := by
  refine gStrI_i ?_
  by_cases h0 : i = 0
  · subst h0; decide
  · have : i.natAbs.log2 < 200 := (Nat.log2_lt (by omega)).mpr (Nat.lt_of_lt_of_le h (by decide))
    omega
theorem sI_strOk (i : Int) : PyData.strOk (sI i) = true := strOk_of _
/-- the line of a place -/
def lnA (p : Int) (row : List Int) : Str := Str.join (Str.ofString " ") (Str.ofString "at" :: sI p :: row.map sI)
theorem lnA_eq (p : Int) (row : List Int) : (Str.ofString "at " ++ sI p) ++ Str.join (Str.ofString "") (row.map fun e => Str.ofString " " ++ sI e) = lnA p row := by
  unfold lnA
  have h1 := join_one (Str.ofString " ") rfl (Str.ofString "at") (sI p :: row.map sI)
  rw [h1]
  have hj : ∀ (z : Str) (zs : List Str), Str.join (Str.ofString "") (z :: zs) = z ++ Str.join (Str.ofString "") zs := fun z zs => by
    refine TL.ext_tl ?_
    rw [TL.tl_append, TL.tl_join, TL.tl_join, show TL.tl (Str.ofString "") = [] from TL.tl_ofString ""]
    cases zs with
    | nil => simp [TL.joinL]
    | cons w ws => simp [TL.joinL]
  rw [List.map_cons, hj, List.map_map]
  refine TL.ext_tl ?_
  simp only [TL.tl_append]
  have e : TL.tl (Str.ofString "at ") = TL.tl (Str.ofString "at") ++ TL.tl (Str.ofString " ") := by
    rw [TL.tl_ofString, TL.tl_ofString, TL.tl_ofString]; rfl
  rw [e]
  simp only [List.append_assoc]
  rfl
def lnT (t : Int × Int) : Str := Str.ofString "tie " ++ sI t.1 ++ Str.ofString " " ++ sI t.2
def lnP (m : Int) : Str := Str.ofString "places " ++ sI m
theorem sl (s : String) {n : Nat} (h : s.length ≤ n) : (Str.ofString s).length ≤ n := by rw [ofString_length]; exact h
theorem app_len (a b : Str) : (a ++ b).length = a.length + b.length := by
  show (a.cps ++ b.cps).size = _
  rw [Array.size_append]; rfl
theorem sum_le {l : List Str} {n : Nat} (h : ∀ x ∈ l, x.length ≤ n) : (l.map (·.length)).sum ≤ n * l.length := by
  induction l with
  | nil => exact Nat.zero_le _
  | cons x l ih =>
    have h1 := ih fun y hy => h y (List.mem_cons_of_mem _ hy)
    have h2 := h x List.mem_cons_self
    rw [List.map_cons, List.sum_cons, List.length_cons, Nat.mul_succ]
    omega
/-- the lines -/
def lnsA (rows : List (List Int)) (k : Nat) : List Str := ((List.range k).filter fun q => rows.getD q [] != []).map fun q : Nat => lnA q (rows.getD q [])
def lns (m : Int) (ts : List (Int × Int)) (rows : List (List Int)) : List Str := lnP m :: ts.map lnT ++ lnsA rows m.toNat
theorem lnsA_succ (rows : List (List Int)) (k : Nat) : lnsA rows (k + 1) = if rows.getD k [] = [] then lnsA rows k else lnsA rows k ++ [lnA k (rows.getD k [])] := by
  unfold lnsA
  rw [List.range_succ, List.filter_append, List.map_append]
  by_cases h : rows.getD k [] = []
  · rw [if_pos h]
    have : List.filter (fun q => rows.getD q [] != []) [k] = [] := by
      rw [List.filter_cons_of_neg (by rw [h]; simp)]; rfl
    rw [this]
    simp
  · rw [if_neg h]
    have : List.filter (fun q => rows.getD q [] != []) [k] = [k] := by
      rw [List.filter_cons_of_pos (by simpa using h)]; rfl
    rw [this]
    rfl
structure Txt1 (x : Str) : Prop where
  ok : PyData.strOk x = true
  len : x.length ≤ 1000
theorem lnT_ok {t : Int × Int} (h1 : SmI t.1) (h2 : SmI t.2) : Txt1 (lnT t) := by
  refine ⟨strOk_app (strOk_app (strOk_app (strOk_of _) (sI_strOk _)) (strOk_of _)) (sI_strOk _), ?_⟩
  unfold lnT
  rw [app_len, app_len, app_len]
  have := sI_len h1; have := sI_len h2
  have := sl "tie " (n := 4) (by decide); have := sl " " (n := 1) (by decide)
  omega
theorem lnP_ok {m : Int} (h : SmI m) : Txt1 (lnP m) := by
  refine ⟨strOk_app (strOk_of _) (sI_strOk _), ?_⟩
  unfold lnP
  rw [app_len]
  have := sI_len h
  have := sl "places " (n := 7) (by decide)
  omega
theorem lnA_ok {p : Int} {row : List Int} (hp : SmI p) (hr : ∀ e ∈ row, SmI e) (hl : row.length ≤ 50) : Txt1 (lnA p row) := by
  have hx : ∀ x ∈ Str.ofString "at" :: sI p :: row.map sI, PyData.strOk x = true ∧ x.length ≤ 13 := fun x hx => by
    rcases List.mem_cons.mp hx with rfl | hx
    · exact ⟨strOk_of _, sl "at" (by decide)⟩
    · rcases List.mem_cons.mp hx with rfl | hx
      · exact ⟨sI_strOk _, sI_len hp⟩
      · obtain ⟨e, he, rfl⟩ := List.mem_map.mp hx
        exact ⟨sI_strOk _, sI_len (hr e he)⟩
  refine ⟨strOk_join (strOk_of _) fun x h => (hx x h).1, ?_⟩
  have h1 := StrLaws.join_length_le (Str.ofString " ") (Str.ofString "at" :: sI p :: row.map sI)
  have h2 := sum_le fun x h => (hx x h).2
  have h3 := sl " " (n := 1) (by decide)
  have h4 : (Str.ofString "at" :: sI p :: row.map sI).length = row.length + 2 := by simp
  rw [h4] at h1 h2
  have h5 : (row.length + 2) * (Str.ofString " ").length ≤ (row.length + 2) * 1 := Nat.mul_le_mul_left _ h3
  show (Str.join (Str.ofString " ") (Str.ofString "at" :: sI p :: row.map sI)).length ≤ 1000
  omega
end Lw
end

section
namespace DL
open PySem
section
variable {X : Exn → Ro → Prop} {r : Ro}
end
end DL
end

section
namespace DL
open PySem
section
variable {X : Exn → Ro → Prop} {r : Ro}
end
end DL
end

section
namespace DL
open PySem
end DL
end

section
namespace DL
open PySem
section
variable {r : Ro} {Q : SO → Ro → Prop}
end
end DL
end

section
set_option maxHeartbeats 2000000
namespace DL
open PySem PySem.Spec PySem.Calls PyProof.Rows L2
section
variable {prog : Program} {w : World} {A : Around} {E : Value → Shared → Prop} {s : Shared}
end
section
variable {X : Cx} {W : WX} {tg : Expr}
end
end DL
end

section
set_option maxHeartbeats 2000000
namespace DL
open PySem PySem.Spec PySem.Calls PyProof.Rows L2
section
variable {Y : Cx} {W : WX}
end
/-- as def_read, of a def whose only argument is no data -/
theorem def_read0 {K : PySem.W.Frag} {mg : Str → Option Value} {N : List Str} {body : S} {Q : VK} {E : XK} {H : Hp} {a : Addr} (hn : 0 < N.length) (h : spD K mg (defSem 0 N.length body) 0 [] H Q E) :
    tS ⟨K, mg⟩ (fun c d _ H => E c d H) body { nx := fun _ H' => Q .non H', rt := Q } (start N [V.ref a]) H := by
  obtain ⟨hv, B, O, xs, c, o, ys, e, hy, p⟩ := h
  have hx : xs = [] := List.eq_nil_of_length_eq_zero (by have := c.len; simpa using this)
  subst hx
  have cp := c.pad (N := N) (Nat.zero_le _)
  have es : (start N ([] : List V)).set 0 (some (V.ref a)) = start N [V.ref a] := by
    unfold L2.start
    cases N with
    | nil => simp at hn
    | cons a N => simp [List.replicate_succ]
  have c2 := cp.replace (i := 0) (x := .non) (σ' := start N [V.ref a]) (by rw [← es, List.length_set]) (fun k hk => by rw [← es, List.getElem?_set_ne (Ne.symm hk)]) trivial (fun _ _ z => by cases z)
  have er : ∀ n : Nat, (([] : List Rs).map toSl ++ List.replicate n Sl.non).set 0 .non = List.replicate n .non := fun n => by simp
  rw [er] at c2
  simp only [List.length_nil, Nat.sub_zero] at c2
  unfold defSem at e
  rw [if_pos (show ([] : List Rs).length = 0 from rfl)] at e
  have hr0 : ([] : List Rs).map toSl ++ List.replicate (N.length - 0) Sl.non = List.replicate N.length .non := by simp
  rw [hr0] at e
  have cp0 := c2.shrink (O' := fun _ => False) (fun _ h => h.elim) fun i b ct l F e _ _ => by
    simp [List.getElem?_replicate] at e
  have up : ∀ {B' H' : Hp} {O' : Addr → Prop}, Step B H (fun _ => False) B' H' O' → Step B H O B' H' O' := fun s => ⟨s.sB, fun a o h _ => s.keep a o h (fun z => z), s.live, fun a h _ => s.nB a h (fun z => z), fun a h => (s.nO a h).elim (fun z => z.elim) .inr⟩
  have ex : ∀ {B' H' O' σ' r'}, Same B B' → Con K B' H' σ' r' O' → Bor (List.replicate N.length .non) (start N [V.ref a]) r' σ' → Con K B' H' (([] : List V).map some) (List.zipWith exitSl [] (outs [] 0 r')) O' := fun sB c' b =>
    exit_con (σ0 := start N [V.ref a]) (m := N.length) c sB (fun k hk => absurd hk (by simp)) c' (by simpa using b)
  refine ⟨B, _, _, cp0, ?_⟩
  cases q : body (List.replicate N.length .non) with
  | none => rw [q] at e; cases e
  | some z =>
    obtain ⟨so, r'⟩ := z
    rw [q] at e
    refine ⟨so, r', rfl, ?_⟩
    cases so with
    | nx =>
      cases e
      exact fun B' H' O' σ' s c' b => p B' H' O' .non (up s) (ex s.sB c' b) .non
    | ret v =>
      cases e
      exact fun B' H' O' σ' x s c' b rv => p B' H' O' x (up s) (ex s.sB c' b) rv
    | rets i =>
      simp only [handOn] at e
      split at e
      · rename_i c3 q2
        rw [if_pos (show allFz [] = true from rfl)] at e
        cases e
        intro B' H' O' σ' x s c' b hx
        obtain ⟨l, F, h1, h2, h3⟩ := c'.own i _ _ q2
        rw [hx] at h1
        cases h1
        have c4 := c'.release q2 hx h2
        have b2 : Bor (List.replicate N.length .non) (start N [V.ref a]) (r'.set i .non) σ' := b.trans (bor_set q2 fun z => by cases z)
        refine p B' H' (fun a => O' a ∧ a ∉ F) _ ⟨s.sB, fun a o h _ => s.keep a o h (fun z => z), s.live, fun a h _ => s.nB a h (fun z => z), fun a h => (s.nO a h.1).elim (fun z => z.elim) .inr⟩ (ex s.sB c4 b2) ⟨l, F, rfl, h2, fun a ha => ⟨?_, c'.off a (h3 a ha), fun z => z.2 ha⟩⟩
        exact (s.nO a (h3 a ha)).elim (fun z => z.elim) (fun z => z)
      · cases e
    | exc x =>
      cases e
      exact fun B' H' O' σ' k dx s c' b rx => p B' H' O' k dx (up s) (ex s.sB c' b) rx
    | brk => cases e
    | cnt => cases e
end DL
end

section
set_option maxHeartbeats 2000000
namespace DL
open PySem PySem.Spec PySem.Calls PyProof.Rows L2
section
variable {X : Cx} {W : WX}
end
end DL
end

section
set_option maxHeartbeats 2000000
namespace DL
open PySem PySem.Spec PySem.Calls PyProof.Rows L2
open LamX (CodeO TabS Tabs ExtN TabB LamS lamEnv)
section
variable {X : Cx} {pins : List (Addr × Obj)} {σ : L2.St} {H HZ : Hp} {s s1 : Shared}
end
end DL
end

section
set_option maxHeartbeats 2000000
namespace DL
open PySem PySem.Spec PySem.Calls PyProof.Rows L2
open LamX (CodeO TabS Tabs ExtN TabB LamS lamEnv)
section
variable {X : Cx}
end
end DL
end

section
namespace DL
open PySem PySem.Spec PySem.Calls PyProof.Rows L2
section
variable {X : Cx} {W : WX}
end
end DL
end

section
set_option maxHeartbeats 2000000
namespace DL
open PySem PySem.Spec PySem.Calls PyProof.Rows L2
open LamX (CodeO TabS TabB LamS lamEnv)
end DL
end

section
set_option maxHeartbeats 2000000
namespace DL
open PySem PySem.Spec PySem.Calls PyProof.Rows L2
open LamX (CodeO TabS TabB LamS lamEnv)
section
variable {X : Cx} {W : WX}
end
end DL
end

section
namespace DL
open PySem PySem.Spec PySem.Calls PyProof.Rows L2
section
variable {X : Cx} {W : WX} {i : Nat} {ad : Addr}
/-- a test by what is asked of the exception -/
def DBx (X : Cx) (W : WX) (i : Nat) (ad : Addr) (e : Expr) (m : M Bool) : Prop := PT X e (fun σ H Q => σ[i]? = some (some (V.ref ad)) ∧ tG (Cx.g X) W m rB σ H Q)
def DWx (X : Cx) (W : WX) (i : Nat) (ad : Addr) (e : Expr) (m : M Bool) : Prop := PW X e (fun σ H Q => σ[i]? = some (some (V.ref ad)) ∧ tG (Cx.g X) W m rB σ H Q)
theorem dbx_of {e : Expr} {m : M Bool} (h : DB X W e m) : DBx X W i ad e m := pt_weak h fun σ H Q h => h.2
theorem dbx_val {e : Expr} {m : M RV} (h : DEx X W i ad e m) (he : ∀ whole, isTrue e X.env whole = (do let v ← whole; standAt e.pos; holding [v] (truthy v)) := by intro _; rfl) : DBx X W i ad e (mTst m) := pt_weak (pt_val h he) fun σ H Q ⟨hi, B, r, O, h⟩ => by
  refine ⟨hi, tG.of ((h.bind later_rB (R := rV (Cx.g X))).mono ?_)⟩
  rintro y H1 ⟨v, B1, r1, O1, s1, x1, h1⟩
  exact h1.ofBool x1
theorem dwx_and1 {a : Expr} {pos : Pos} {m : M Bool} (h : DBx X W i ad a m) : DWx X W i ad (.BoolOp .And [a] pos) m := pw_and1 h
theorem dwx_and {a b : Expr} {es : List Expr} {pos : Pos} {m n : M Bool} (h : DBx X W i ad a m) (t : DWx X W i ad (.BoolOp .And (b :: es) pos) n) : DWx X W i ad (.BoolOp .And (a :: b :: es) pos) (mAnd m n) := pw_weak (pw_and h t) fun σ H Q ⟨hi, B, r, O, h⟩ => by
  refine ⟨hi, tG.of ((h.bind later_rB (R := rB)).mono ?_)⟩
  rintro y H1 ⟨v, B1, r1, O1, s1, x1, h1⟩
  cases x1
  cases y with
  | true => exact iteT ⟨hi, tG.of h1⟩
  | false => exact iteF (h1.ret rfl)
theorem dbx_w {e : Expr} {m : M Bool} (h : DWx X W i ad e m) : DBx X W i ad e m := PW.pt h
end
end DL
end

section
set_option maxHeartbeats 2000000
namespace DL
open PySem PySem.Spec PySem.Calls PyProof.Rows L2
section
variable {prog : Program} {w : World} {A : Around} {E : Value → Shared → Prop} {s : Shared}
end
section
variable {X : Cx} {s0 : Shared} {H0 : Hp} {scope : Scope} {ce : Env} {fp : List Addr}
end
end DL
end

section
namespace DL
open PySem PySem.Spec PySem.Calls PyProof.Rows L2
section
variable {K : PySem.W.Frag} {B B' H H' : Hp} {σ : L2.St} {r : Ro} {O : Addr → Prop}
section
variable {X : Cx} {W : WX}
end
end
end DL
end

section
namespace DL
open PySem PySem.Spec PySem.Calls PyProof.Rows L2
section
variable {X : Cx} {W : WX}
end
end DL
end

section
namespace DL
open PySem PySem.Spec PySem.Calls PyProof.Rows L2
section
variable {X : Cx} {W : WX}
end
end DL
end

section
namespace DL
open PySem PySem.Spec PySem.Calls PyProof.Rows L2
open PySem.W (EachIs AllAlike Sortable alike dataLt dataLe SortsAt dataKind)
section
variable {X : Cx} {W : WX} {pins : List (Addr × Obj)} {σ : L2.St} {H : Hp} {s : Shared}
end
section
variable {prog : Program} {w : World} {A : Around} {s : Shared}
end
section
variable {X : Cx} {W : WX}
end
end DL
end

section
namespace DL
open PySem
section
variable {X : Exn → Ro → Prop} {r : Ro}
end
end DL
end

section
namespace DL
open PySem PySem.Spec PyProof.Rows L2
section
variable {X : Cx} {W : WX}
end
end DL
end

section
namespace DL
open PySem
section
variable {r : Ro} {Q : SO → Ro → Prop} {X : Exn → Ro → Prop}
def fzKP (Q : RV → Ro → Prop) (r : Ro) (v : RV) (t : Tok Q := .tok) : Prop := match v with
  | .new (.dK kvs) => oneI (kvs.map fun kv => (kD kv.1, kv.2)) = true ∧ Q (.val (.dict (kvs.map fun kv => (kD kv.1, kv.2)))) r
  | _ => False
@[simp, simp ↓] theorem fzKP_dK {Q : RV → Ro → Prop} {kvs : List (Ky × D)} : fzKP Q r (.new (.dK kvs)) ↔ oneI (kvs.map fun kv => (kD kv.1, kv.2)) = true ∧ Q (.val (.dict (kvs.map fun kv => (kD kv.1, kv.2)))) r := Iff.rfl
@[simp, simp ↓] theorem E_mFzK {m : M RV} {Q : RV → Ro → Prop} : E X (mFzK m) r Q ↔ E X m r fun v r1 => fzKP Q r1 v := by
  refine Iff.trans (E_bind (m := m)) ?_
  constructor
  · refine fun h => h.mono fun v r1 ⟨o, r2, e, q⟩ => ?_
    cases v with
    | val d => cases e
    | new ct =>
      cases ct with
      | dK kvs =>
        simp only at e
        split at e
        · rename_i h1
          cases e
          exact ⟨h1, q⟩
        · cases e
      | _ => cases e
  · refine fun h => h.mono fun v r1 q => ?_
    cases v with
    | val d => exact q.elim
    | new ct =>
      cases ct with
      | dK kvs =>
        refine ⟨.ok _, r1, ?_, q.2⟩
        simp only
        rw [if_pos q.1]
      | _ => exact q.elim
end
end DL
end

section
namespace DL
open PySem PySem.Spec PyProof.Rows L2
section
variable {K : PySem.W.Frag} {B B' H H' : Hp} {σ : L2.St} {r : Ro} {O : Addr → Prop}
end
section
variable {X : Cx} {W : WX}
end
end DL
end

section
namespace DL
open PySem
section
variable {X : Exn → Ro → Prop} {r : Ro}
end
end DL
end

section
namespace DL
open PySem
section
variable {X : Exn → Ro → Prop} {r : Ro}
end
end DL
end

section
set_option maxHeartbeats 2000000
namespace DL
open PySem PySem.Spec PySem.Calls PyProof.Rows L2
section
variable {M : Model} {A : Around} {E : Value → Shared → Prop} {s : Shared} {env : Env}
end
section
variable {X : Cx}
end
end DL
end

section
set_option maxHeartbeats 2000000
namespace DL
open PySem PySem.Spec PySem.Calls PyProof.Rows L2
section
variable {X : Cx}
end
end DL
end

section
set_option maxHeartbeats 2000000
namespace DL
open PySem PySem.Spec PySem.Calls PyProof.Rows L2
section
variable {X : Cx} {W : WX}
end
end DL
end

section
set_option maxHeartbeats 2000000
namespace DL
open PySem PySem.Spec PyProof.Rows L2
section
variable {K : PySem.W.Frag} {B H H' : Hp} {σ σ' : L2.St} {r : Ro} {O : Addr → Prop}
/-- an owned object is changed in place, and takes up what is owned, but by no slot -/
theorem Con.change3 (c : Con K B H σ r O) {i : Nat} {b : Bool} {ct ct' : Ct} {l : Addr} {F F' : List Addr} (e : r[i]? = some (Sl.own b ct)) (hs : σ[i]? = some (some (V.ref l))) (o : OwnR K B H ct l F)
    (k : ∀ a, a ∉ F → H' a = H a) (o' : OwnR K B H' ct' l F')
    (hF : ∀ a ∈ F', a ∈ F ∨ (O a ∧ ∀ (j : Nat) b2 c2 l2 F2, j ≠ i → r[j]? = some (Sl.own b2 c2) → σ[j]? = some (some (V.ref l2)) → OwnR K B H c2 l2 F2 → a ∉ F2)) (live : ∀ a, H a ≠ none → H' a ≠ none)
    (hal : ∀ rows, ct' = .ll rows → noAl r i = true) : Con K B H' σ (r.set i (.own b ct')) O := by
  obtain ⟨l0, F0, g1, g2, g3⟩ := c.own i b ct e
  rw [hs] at g1; cases g1
  have hFO : ∀ a ∈ F, O a := fun a ha => by
    rw [ownR_uniq g2 o fun _ _ => rfl] at ha
    exact g3 a ha
  have c1 := (c.release e hs o).toCon0
  have c2 := c1.mono (H' := H') (Same.refl _) (fun a x h => by
    by_cases q : a ∈ F
    · rw [c.off a (hFO a q)] at h; cases h
    · rw [k a q]; exact c.sub a x h) (fun a h => k a h.2) c1.off
  have c3 := c2.grow0 (F := F) fun a ha => ⟨c.off a (hFO a ha), live a (c.liv a (hFO a ha))⟩
  have c4 := c3.replace (i := i) (x := .own b ct') rfl (fun _ _ => rfl) ⟨l, F', hs, o', fun a ha => (hF a ha).elim .inr fun h => by
      by_cases q : a ∈ F
      · exact .inr q
      · exact .inl ⟨h.1, q⟩, fun j b2 c2' l2 F2 n e2 s2 o2 a ha hb => by
    rcases get_set e2 with ⟨_, z⟩ | ⟨n, e2⟩
    · cases z
    · obtain ⟨m, G, q1, q2, q3⟩ := c.own j b2 c2' e2
      rw [s2] at q1; cases q1
      have hz : F2 = G := ownR_uniq q2 o2 fun a ha => k a fun hz => c.sep i j b ct b2 c2' l l2 F G (Ne.symm n) e e2 hs s2 o q2 a hz ha
      subst hz
      rcases hF a ha with h | h
      · exact c.sep i j b ct b2 c2' l l2 F F2 (Ne.symm n) e e2 hs s2 o q2 a h hb
      · exact h.2 j b2 c2' l2 F2 n e2 s2 q2 hb⟩
  rw [List.set_set] at c4
  refine ⟨c4.shrink0 (fun a h => ?_) fun j b2 c2' l2 F2 e2 s2 o2 a ha => ?_, fun i2 j k2 h b2 rows l2 as h1 h2 h3 => ?_⟩
  · by_cases q : a ∈ F
    · exact .inr q
    · exact .inl ⟨h, q⟩
  · obtain ⟨m, G, q1, q2, q3⟩ := c4.own j b2 c2' e2
    rw [s2] at q1; cases q1
    rw [ownR_uniq o2 q2 fun _ _ => rfl] at q3
    exact (q3 a ha).elim (fun h => h.1) fun h => hFO a h
  · rcases get_set h with ⟨rfl, z⟩ | ⟨n, g⟩
    · cases z
    · rcases get_set h1 with ⟨rfl, z⟩ | ⟨n1, g1⟩
      · cases z
        exact absurd g (noAl_of (hal rows rfl))
      · obtain ⟨m, G, q1, q2, q3⟩ := c.own j b2 _ g1
        rw [h2] at q1; cases q1
        rw [k _ (fun hz => c.sep i j b ct b2 _ l _ F G (Ne.symm n1) e g1 hs h2 o q2 _ hz (ownR_mem q2))] at h3
        exact c.al i2 j k2 g b2 rows _ as g1 h2 h3
end
section
variable {X : Cx} {W : WX}
theorem live_upd {H : Hp} (l : Addr) (o : HO) : ∀ a, H a ≠ none → upd H l o a ≠ none := fun a ha => by
  by_cases e : a = l
  · subst e; rw [upd_same]; simp
  · rw [upd_ne e]; exact ha
end
end DL
end

section
namespace DL
open PySem
section
variable {X : Exn → Ro → Prop} {r : Ro}
end
end DL
end

section
set_option maxHeartbeats 2000000
namespace DL
open PySem PySem.Spec PySem.Calls PyProof.Rows L2
section
variable {K : PySem.W.Frag} {B H H' : Hp} {σ σ' : L2.St} {r : Ro} {O : Addr → Prop}
end
section
variable {X : Cx} {W : WX}
end
end DL
end

section
set_option maxHeartbeats 2000000
namespace DL
open PySem PySem.Spec PySem.Calls PyProof.Rows L2
section
variable {X : Cx} {W : WX}
end
end DL
end

section
namespace DL
open PySem
section
variable {X : Exn → Ro → Prop} {r : Ro}
@[simp, simp ↓] theorem putP_tl {i : Nat} {fs : List Fl} {x : Sl} {Q : SO → Ro → Prop} : putP i (.new (.tl fs)) r Q (some x) ↔ putSl.pinnedB x = false ∧ setP r i (.own false (.tl fs)) (Q .nx) := Iff.rfl
end
end DL
end

section
namespace DL
open PySem PySem.Spec PySem.Calls PyProof.Rows L2
section
variable {X : Cx} {W : WX}
end
end DL
end

section
set_option maxHeartbeats 2000000
namespace DL
open PySem PySem.Spec PySem.Calls PyProof.Rows L2
section
variable {K : PySem.W.Frag} {B H H' : Hp} {σ σ' : L2.St} {r : Ro} {O : Addr → Prop} {G : Ct2} {W : WX}
/-- what is owned by slot i out of reach: it stays -/
theorem At.hide {α β : Type} {i : Nat} {m : M α} {R : Rl α β} {Q : β → Hp → Prop} (h : At G W (mHide i m) R B r O σ H Q)
    (hR : ∀ (B' H' : Hp) (O' : Addr → Prop) (F : List Addr) a y, (∀ x ∈ F, H x ≠ none) → R H B' H' O' σ a y → R H B' H' (fun x => O' x ∨ x ∈ F) σ a y) :
    ∃ b ct l F, r[i]? = some (.own b ct) ∧ σ[i]? = some (some (V.ref l)) ∧ OwnR G.K B H ct l F ∧
      At G W m R B (r.set i .non) (fun a => O a ∧ a ∉ F) σ H fun y H1 => (∀ a ∈ F, H1 a = H a) ∧ Q y H1 := by
  obtain ⟨c, o, r', e, p⟩ := h
  unfold mHide at e
  split at e
  · rename_i b ct q
    split at e
    · rename_i a r1 q1
      split at e
      · rename_i q2
        split at e
        · rename_i q3
          have q2 : r1[i]? = some .non ∧ noAl r1 i = true := ⟨q2, q3⟩
          clear q3
          cases e
          obtain ⟨l, F, h1, own, h3⟩ := c.own i b ct q
          refine ⟨b, ct, l, F, q, h1, own, c.release q h1 own, _, _, q1, fun B' H' O' y s c' b' x => ?_⟩
          have live := ownR_some own
          have keep : ∀ a ∈ F, H' a = H a := fun a ha => by
            cases q5 : H a with
            | none => exact absurd q5 (live a ha)
            | some o => exact s.keep a o q5 fun z => z.2 ha
          have own' := ownR_same own s.sB keep
          have hF : ∀ a ∈ F, B' a = none := fun a ha => s.nB a (live a ha) (fun z => z.2 ha) (c.off a (h3 a ha))
          have c2 := c'.put (j := i) (b := b) h1 own' hF (fun j b2 c2 l2 F2 n e2 s2 o2 a ha ha2 => by
            obtain ⟨m2, G2, g1, g2, g3⟩ := c'.own j b2 c2 e2
            rw [s2] at g1; cases g1
            rw [ownR_uniq o2 g2 fun _ _ => rfl] at g3
            rcases s.nO a (g3 a ha2) with z | z
            · exact z.2 ha
            · exact live a ha z) q2.2
          refine ⟨keep, p B' H' (fun a => O' a ∨ a ∈ F) y ⟨s.sB, fun a o h n => s.keep a o h fun z => n z.1, s.live, fun a h n hb => s.nB a h (fun z => n z.1) hb, fun a h => ?_⟩ c2 (fun j x hx px => ?_) (hR _ _ _ _ _ _ live x)⟩
          · rcases h with h | h
            · rcases s.nO a h with z | z
              · exact .inl z.1
              · exact .inr z
            · exact .inl (h3 a h)
          · by_cases n : j = i
            · subst n
              rw [q] at hx
              cases hx
              have hl := (List.getElem?_eq_some_iff.mp q2.1).1
              exact ⟨⟨_, List.getElem?_set_self hl, px⟩, rfl⟩
            · obtain ⟨⟨y2, g1, g2⟩, g3⟩ := b' j x (by rw [List.getElem?_set_ne (Ne.symm n)]; exact hx) px
              exact ⟨⟨y2, by rw [List.getElem?_set_ne (Ne.symm n)]; exact g1, g2⟩, g3⟩
        · cases e
      · cases e
    · cases e
  · cases e
theorem objF_some {C : Str} {i : Nat} {b : Bool} {fs : List (Str × Fl)} (h : objF C i r = some (b, fs)) : r[i]? = some (.own b (.obj C fs)) := by
  unfold objF at h
  split at h
  · rename_i b' C' fs' q
    split at h
    · rename_i e
      cases h
      rw [q, e]
    · cases h
  · cases h
/-- an attribute, as it is held -/
theorem fls_look {f : Str} : ∀ {fs : List (Str × Fl)} {gs : List (Str × V)} {as : List Addr} {x : Fl}, gs.map (·.1) = fs.map (·.1) → FlsR K B H (fs.map (·.2)) (gs.map (·.2)) as → fs.lookup f = some x →
    ∃ v F, gs.lookup f = some v ∧ FlR K B H x v F ∧ ∀ a ∈ F, a ∈ as
  | [], _, _, _, _, _, h => by cases h
  | _ :: _, [], _, _, e, _, _ => by cases e
  | (k, y) :: fs, (k', v) :: gs, as, x, e, r, h => by
    simp only [List.map_cons, List.cons.injEq] at e
    obtain ⟨rfl, e⟩ := e
    cases r with
    | cons r1 r2 =>
      rw [List.lookup_cons] at h ⊢
      by_cases q : (f == k') = true
      · rw [q] at h ⊢
        cases h
        exact ⟨v, _, rfl, r1, fun a ha => List.mem_append_left _ ha⟩
      · have q : (f == k') = false := by simpa using q
        rw [q] at h ⊢
        obtain ⟨w, F, h1, h2, h3⟩ := fls_look e r2 h
        exact ⟨w, F, h1, h2, fun a ha => List.mem_append_right _ (h3 a ha)⟩
theorem putFl_keys {f : Str} {x : Fl} {v : V} : ∀ {fs : List (Str × Fl)} {gs : List (Str × V)}, gs.map (·.1) = fs.map (·.1) → (putF f v gs).map (·.1) = (putFl f x fs).map (·.1)
  | [], [], _ => rfl
  | [], _ :: _, e => by cases e
  | _ :: _, [], e => by cases e
  | (k, y) :: fs, (k', w) :: gs, e => by
    simp only [List.map_cons, List.cons.injEq] at e
    obtain ⟨rfl, e⟩ := e
    unfold putF putFl
    by_cases q : k' = f
    · rw [if_pos q, if_pos q, List.map_cons, List.map_cons, e]
    · rw [if_neg q, if_neg q, List.map_cons, List.map_cons, putFl_keys e]
theorem flR_rs {x : Fl} {y : Rs} {v : V} {F : List Addr} (h : FlR K B H x v F) (e : flRs x = some y) : RsR K B H y v := by
  cases x with
  | d d => cases e; exact h.2
  | lst ds => cases e; obtain ⟨a, rfl, rfl, vs, h1, h2⟩ := h; exact ⟨a, _, rfl, rfl, vs, h1, h2⟩
  | dK ds => cases e; obtain ⟨a, rfl, rfl, vs, h1, h2⟩ := h; exact ⟨a, _, rfl, rfl, vs, h1, h2⟩
  | ld _ => cases e
/-- an instance's place, and an attribute of it -/
theorem Con.objAt (c : Con K B H σ r O) {C : Str} {i : Nat} {b : Bool} {fs : List (Str × Fl)} (h : objF C i r = some (b, fs)) {Ca : Addr} (hC : PySem.W.nsIn K mainGlobals C = some (some (.ref Ca))) :
    ∃ l dx gs as, σ[i]? = some (some (V.ref l)) ∧ H l = some (.ins Ca dx gs) ∧ H dx = some (.own l) ∧ OwnR K B H (.obj C fs) l (l :: dx :: as) ∧ gs.map (·.1) = fs.map (·.1) ∧ FlsR K B H (fs.map (·.2)) (gs.map (·.2)) as ∧ (l :: dx :: as).Nodup ∧ (∀ a ∈ l :: dx :: as, O a) := by
  obtain ⟨l, F, h1, own, h3⟩ := c.own i b _ (objF_some h)
  obtain ⟨Ca', dx, gs, as, rfl, e1, e2, e3, nd, hk, r⟩ := id own
  rw [hC] at e1
  cases e1
  exact ⟨l, dx, gs, as, h1, e2, e3, own, hk, r, nd, h3⟩
end
section
variable {X : Cx} {W : WX} {C : Str} {Ca : Addr} {f : Str}
/-- x.f, shared data -/
theorem de_fld {x : Expr} {i : Nat} {pos : Pos} (hC : PySem.W.nsIn X.K mainGlobals C = some (some (.ref Ca))) (cl : Cls X.K Ca) (na : NoAttr X.K Ca f) (ho : PE X x (tVar i))
    (hb : attributeBase x f X.env (eval x X.env) = eval x X.env := by rfl) : DE X W (.Attribute x f pos) (mFld C i f) := pe_weak (pe_fld ho hb) fun σ H Q ⟨B, r, O, c, o, r', e, p⟩ => by
  unfold mFld at e
  split at e
  · rename_i b fs q
    split at e
    · rename_i d q2
      cases e
      obtain ⟨l, dx, gs, as, h1, h2, h3, own, hk, fl, nd, hO⟩ := c.objAt q hC
      obtain ⟨v, F, g1, g2, g3⟩ := fls_look hk fl q2
      exact ⟨_, h1, l, Ca, dx, gs, v, rfl, h2, cl, na, g1, p B H O v .refl c .refl g2.2⟩
    · cases e
  · cases e
theorem opF_run {g : List Rs → Option RV} {i : Nat} {σ : L2.St} {H : Hp} {Q : VK} (hC : PySem.W.nsIn X.K mainGlobals C = some (some (.ref Ca))) (cl : Cls X.K Ca) (na : NoAttr X.K Ca f) (h : tG (Cx.g X) W (mOpF g C i f) (rV (Cx.g X)) σ H Q) :
    tFld X.K (tVar i) f σ H fun v H1 => ∃ B y z, Same B H1 ∧ RsR X.K B H1 y v ∧ g [y] = some z ∧ ∀ H' v, Alc X.K B H1 H' z v → Q v H' := by
  obtain ⟨B, r, O, c, o, r', e, p⟩ := h
  unfold mOpF at e
  split at e
  · rename_i b fs q
    split at e
    · rename_i x q2
      split at e
      · rename_i y q3
        cases q4 : g [y] with
        | none => rw [q4] at e; cases e
        | some z =>
          rw [q4] at e
          cases e
          obtain ⟨l, dx, gs, as, h1, h2, h3, own, hk, fl, nd, hO⟩ := c.objAt q hC
          obtain ⟨v, F, g1, g2, g3⟩ := fls_look hk fl q2
          refine ⟨_, h1, l, Ca, dx, gs, v, rfl, h2, cl, na, g1, B, y, z, c.sub, flR_rs g2 q3, q4, fun H' w a => ?_⟩
          obtain ⟨B', s, c', rv⟩ := c.alc a
          exact p B' H' O w s c' .refl rv
      · cases e
    · cases e
  · cases e
/-- g(x.f), g a built-in function -/
theorem de_cbF {id : String} {g : List Rs → Option RV} {y : Str} {x : Expr} {i : Nat} {p pos apos : Pos} (hC : PySem.W.nsIn X.K mainGlobals C = some (some (.ref Ca))) (cl : Cls X.K Ca) (na : NoAttr X.K Ca f) (ho : PE X x (tVar i))
    (hc : CallD X (.builtin id) g) (hg : Gl X y) (hm : X.mg y = none) (hv : bootBuiltins y = some (.builtin id))
    (hb : attributeBase x f X.env (eval x X.env) = eval x X.env := by rfl) (hn : y ≠ "__name__" := by decide) (hdb : (y == ("__debug__" : Str)) = false := by decide)
    (he : starEach [.Attribute x f apos] X.env = (false, eval (.Attribute x f apos) X.env) :: starEach [] X.env := by rfl) (hpl : (backTo pos (starEach [] X.env)).any (·.1) = false := by rfl) :
    DE X W (.Call (.Name y p) [.Attribute x f apos] [] pos) (mOpF g C i f) :=
  pe_weak (pe_callB hc hg hm hv (pa_cons (pe_fld ho hb) pa_nil he) hn hdb he hpl) fun σ H Q h => by
    obtain ⟨v, hv, l, Ca', dx, gs, w, rfl, h2, c1, n1, g1, B, y, z, sB, hy, hz, k⟩ := opF_run hC cl na h
    exact ⟨_, hv, l, Ca', dx, gs, w, rfl, h2, c1, n1, g1, B, [y], z, sB, .cons hy .nil, hz, k⟩
/-- T(x.f), T a built-in type -/
theorem de_ctF {T : String} {g : List Rs → Option RV} {y : Str} {x : Expr} {i : Nat} {p pos apos : Pos} (hC : PySem.W.nsIn X.K mainGlobals C = some (some (.ref Ca))) (cl : Cls X.K Ca) (na : NoAttr X.K Ca f) (ho : PE X x (tVar i))
    (hc : CallD X (.type T) g) (hg : Gl X y) (hm : X.mg y = none) (hv : bootBuiltins y = some (.type T))
    (hb : attributeBase x f X.env (eval x X.env) = eval x X.env := by rfl) (hn : y ≠ "__name__" := by decide) (hdb : (y == ("__debug__" : Str)) = false := by decide)
    (he : starEach [.Attribute x f apos] X.env = (false, eval (.Attribute x f apos) X.env) :: starEach [] X.env := by rfl) (hpl : (backTo pos (starEach [] X.env)).any (·.1) = false := by rfl) :
    DE X W (.Call (.Name y p) [.Attribute x f apos] [] pos) (mOpF g C i f) :=
  pe_weak (pe_callTy hc hg hm hv (pa_cons (pe_fld ho hb) pa_nil he) hn hdb he hpl) fun σ H Q h => by
    obtain ⟨v, hv, l, Ca', dx, gs, w, rfl, h2, c1, n1, g1, B, y, z, sB, hy, hz, k⟩ := opF_run hC cl na h
    exact ⟨_, hv, l, Ca', dx, gs, w, rfl, h2, c1, n1, g1, B, [y], z, sB, .cons hy .nil, hz, k⟩
end
end DL
end

section
set_option maxHeartbeats 2000000
namespace DL
open PySem PySem.Spec PySem.Calls PyProof.Rows L2
section
variable {K : PySem.W.Frag} {B H H' : Hp} {σ σ' : L2.St} {r : Ro} {O : Addr → Prop} {G : Ct2} {W : WX}
/-- an attribute whose content, at a, is changed in place -/
theorem fls_putF {f : Str} {x x' : Fl} {a : Addr} {o : HO} (hx : ∀ {H : Hp} {v : V} {F : List Addr}, FlR K B H x v F → F = [a] ∨ v ≠ .ref a) (hx' : FlR K B (upd H a o) x' (.ref a) [a]) :
    ∀ {fs : List (Str × Fl)} {gs : List (Str × V)} {as : List Addr}, gs.map (·.1) = fs.map (·.1) → FlsR K B H (fs.map (·.2)) (gs.map (·.2)) as → as.Nodup → fs.lookup f = some x → gs.lookup f = some (.ref a) →
    FlsR K B (upd H a o) ((putFl f x' fs).map (·.2)) (gs.map (·.2)) as ∧ gs.map (·.1) = (putFl f x' fs).map (·.1)
  | [], _, _, _, _, _, h, _ => by cases h
  | _ :: _, [], _, e, _, _, _, _ => by cases e
  | (k, y) :: fs, (k', v) :: gs, as, e, r, nd, h, h2 => by
    simp only [List.map_cons, List.cons.injEq] at e
    obtain ⟨rfl, e⟩ := e
    cases r with
    | @cons _ _ _ _ F F' r1 r2 =>
      rw [List.nodup_append] at nd
      rw [List.lookup_cons] at h h2
      by_cases q : k' = f
      · subst q
        have qq : (k' == k') = true := by simp
        rw [qq] at h h2
        cases h
        cases h2
        have hF : F = [a] := by
          rcases hx r1 with z | z
          · exact z
          · exact absurd rfl z
        subst hF
        unfold putFl
        rw [if_pos rfl]
        refine ⟨.cons hx' (flsR_same r2 (Same.refl _) fun b hb => upd_ne fun z => nd.2.2 a (by simp) b hb z.symm), ?_⟩
        rw [List.map_cons, List.map_cons, e]
      · have q' : (f == k') = false := by
          simp
          exact fun z => q z.symm
        rw [q'] at h h2
        have h : fs.lookup f = some x := h
        have h2 : gs.lookup f = some (.ref a) := h2
        unfold putFl
        rw [if_neg q]
        obtain ⟨w, F2, g1, g2, g3⟩ := fls_look e r2 h
        rw [h2] at g1
        cases g1
        have ha : a ∈ F2 := by
          rcases hx g2 with z | z
          · rw [z]; simp
          · exact absurd rfl z
        obtain ⟨i1, i2⟩ := fls_putF hx hx' e r2 nd.2.1 h h2
        refine ⟨.cons (flR_same r1 (Same.refl _) fun b hb => upd_ne fun z => ?_) i1, by rw [List.map_cons, List.map_cons, i2]⟩
        subst z
        exact nd.2.2 b hb b (g3 b ha) rfl
/-- a list, a dict, that an attribute holds is changed in place -/
theorem Con.changeF (c : Con K B H σ r O) {C f : Str} {i : Nat} {b : Bool} {fs : List (Str × Fl)} {x x' : Fl} (h : objF C i r = some (b, fs)) {Ca : Addr} (hC : PySem.W.nsIn K mainGlobals C = some (some (.ref Ca))) (hf : fs.lookup f = some x) {a : Addr} {o : HO}
    (hx : ∀ {H : Hp} {v : V} {F : List Addr}, FlR K B H x v F → F = [a] ∨ v ≠ .ref a) {l dx : Addr} {gs : List (Str × V)} (hl : σ[i]? = some (some (V.ref l))) (hi : H l = some (.ins Ca dx gs)) (ha : gs.lookup f = some (.ref a)) (hx' : FlR K B (upd H a o) x' (.ref a) [a]) :
    Con K B (upd H a o) σ (r.set i (.own b (.obj C (putFl f x' fs)))) O ∧ Step B H O B (upd H a o) O := by
  obtain ⟨l', dx', gs', as, h1, h2, h3, own, hk, fl, nd, hO⟩ := c.objAt h hC
  rw [hl] at h1; cases h1
  rw [hi] at h2; cases h2
  obtain ⟨v, F, g1, g2, g3⟩ := fls_look hk fl hf
  rw [ha] at g1; cases g1
  have haF : a ∈ as := by
    rcases hx g2 with z | z
    · exact g3 a (by rw [z]; simp)
    · exact absurd rfl z
  have nd1 := List.nodup_cons.mp nd
  have nd2 := List.nodup_cons.mp nd1.2
  have nal : l ≠ a := fun z => nd1.1 (by rw [z]; exact List.mem_cons_of_mem _ haF)
  have nad : dx ≠ a := fun z => nd2.1 (by rw [z]; exact haF)
  obtain ⟨p1, p2⟩ := fls_putF hx hx' hk fl nd2.2 hf ha
  exact c.change (objF_some h) hl own (fun z hz => upd_ne fun e => hz (by rw [e]; simp [haF]))
    ⟨Ca, dx, gs, as, rfl, hC, by rw [upd_ne nal]; exact hi, by rw [upd_ne nad]; exact h3, nd, p2, p1⟩ (fun _ z => z) (live_upd a _) (fun rows e => by cases e)
theorem one_lst {ds : List D} {a : Addr} : ∀ {H : Hp} {v : V} {F : List Addr}, FlR K B H (.lst ds) v F → F = [a] ∨ v ≠ .ref a := fun {H v F} h => by
  obtain ⟨b, rfl, rfl, _⟩ := h
  by_cases e : b = a
  · exact .inl (by rw [e])
  · exact .inr fun z => e (V.ref.inj z)
theorem one_dK {ds : List (Ky × D)} {a : Addr} : ∀ {H : Hp} {v : V} {F : List Addr}, FlR K B H (.dK ds) v F → F = [a] ∨ v ≠ .ref a := fun {H v F} h => by
  obtain ⟨b, rfl, rfl, _⟩ := h
  by_cases e : b = a
  · exact .inl (by rw [e])
  · exact .inr fun z => e (V.ref.inj z)
theorem lstAtF_some {C f : Str} {i : Nat} (h : lstAtF C i f r = true) : ∃ b fs ds, objF C i r = some (b, fs) ∧ fs.lookup f = some (.lst ds) := by
  unfold lstAtF at h
  split at h
  · rename_i b fs q
    split at h
    · rename_i ds q2; exact ⟨b, fs, ds, q, q2⟩
    · cases h
  · cases h
theorem dctF_some {C f : Str} {i : Nat} {kvs : List (Ky × D)} (h : dctF C i f r = some kvs) : ∃ b fs, objF C i r = some (b, fs) ∧ fs.lookup f = some (.dK kvs) := by
  unfold dctF at h
  split at h
  · rename_i b fs q
    split at h
    · rename_i ds q2; cases h; exact ⟨b, fs, q, q2⟩
    · cases h
  · cases h
/-- the dict at an attribute -/
theorem Con.dctAt (c : Con K B H σ r O) {C f : Str} {i : Nat} {kvs : List (Ky × D)} (h : dctF C i f r = some kvs) {Ca : Addr} (hC : PySem.W.nsIn K mainGlobals C = some (some (.ref Ca))) :
    ∃ l dx gs a vs, σ[i]? = some (some (V.ref l)) ∧ H l = some (.ins Ca dx gs) ∧ gs.lookup f = some (.ref a) ∧ H a = some (.dK vs) ∧ KvR K B vs kvs := by
  obtain ⟨b, fs, q, q2⟩ := dctF_some h
  obtain ⟨l, dx, gs, as, h1, h2, h3, own, hk, fl, nd, hO⟩ := c.objAt q hC
  obtain ⟨v, F, g1, g2, g3⟩ := fls_look hk fl q2
  obtain ⟨a, rfl, rfl, vs, e1, kv⟩ := g2
  exact ⟨l, dx, gs, a, vs, h1, h2, g1, e1, kv⟩
end
section
variable {X : Cx} {W : WX} {C : Str} {Ca : Addr} {f : Str}
theorem hide_rL {σ : L2.St} {H : Hp} : ∀ (B' H' : Hp) (O' : Addr → Prop) (F : List Addr) (a : List AV) (y : List V), (∀ x ∈ F, H x ≠ none) → (rL (Cx.g X)) H B' H' O' σ a y → (rL (Cx.g X)) H B' H' (fun x => O' x ∨ x ∈ F) σ a y := fun _ _ _ _ _ _ _ h => h
theorem hide_rA {σ : L2.St} {H : Hp} : ∀ (B' H' : Hp) (O' : Addr → Prop) (F : List Addr) (a : AV) (y : V), (∀ x ∈ F, H x ≠ none) → (rA (Cx.g X)) H B' H' O' σ a y → (rA (Cx.g X)) H B' H' (fun x => O' x ∨ x ∈ F) σ a y := fun _ _ _ _ _ _ _ h => h
/-- x.f.m(e, ..) changes the list -/
theorem de_mutF {name : Str} {id : String} {x e : Expr} {es : List Expr} {fpos apos cpos : Pos} {g : List D → List D → Option (List D × D)} {i : Nat} {ms : List (M AV)} (hC : PySem.W.nsIn X.K mainGlobals C = some (some (.ref Ca))) (cl : Cls X.K Ca) (na : NoAttr X.K Ca f)
    (pa : PlainAttrs "list") (slot : Slot "list" name id) (hty : typeOf (.builtin id) = pure (.type "method_descriptor")) (hm : MutD X id g) (ho : PE X x (tVar i)) (ha : DA X W (e :: es) (oL ms))
    (hb : attributeBase x f X.env (eval x X.env) = eval x X.env := by rfl)
    (hbase : attributeBase (.Attribute x f fpos) name X.env (eval (.Attribute x f fpos) X.env) = eval (.Attribute x f fpos) X.env := by rfl)
    (hfew : ((backTo cpos (starEach (e :: es) X.env)).all (fun x => !x.1) && (backToKw cpos (keywordEach [] X.env)).all (fun x => x.1.isSome)
      && decide ((e :: es).length + ([] : List Keyword).length + (if ([] : List Keyword).isEmpty then 0 else 1) < 30)) = true := by rfl)
    (hline : (apos.endLine == cpos.line) = true := by rfl) (hs : starEach (e :: es) X.env = (false, eval e X.env) :: starEach es X.env := by rfl) (hplain : (backTo cpos (starEach es X.env)).any (·.1) = false := by rfl) :
    DE X W (.Call (.Attribute (.Attribute x f fpos) name apos) (e :: es) [] cpos) (mMutF g C i f ms) := pe_weak (pe_bm pa slot hty hm (pe_fld ho hb) ha hbase hfew hline hs hplain) fun σ H Q ⟨B, r, O, c, o, r', e, p⟩ => by
  unfold mMutF at e
  split at e
  · rename_i hl
    obtain ⟨b0, fs0, ds0, q0, q1⟩ := lstAtF_some hl
    obtain ⟨l, dx, gs, as, h1, h2, h3, own, hk, fl, nd, hO⟩ := c.objAt q0 hC
    obtain ⟨v, F, g1, g2, g3⟩ := fls_look hk fl q1
    obtain ⟨a, rfl, rfl, xs, e1, dx1⟩ := g2
    refine ⟨_, h1, l, Ca, dx, gs, _, rfl, h2, cl, na, g1, .inl ⟨rfl, xs, .of e1⟩, ?_⟩
    have hA : At (Cx.g X) W ((mHide i (oL ms)).bind (mutF g C i f)) (rV (Cx.g X)) B r O σ H Q := ⟨c, o, r', e, p⟩
    obtain ⟨b2, ct, l2, F2, k1, k2, k3, k4⟩ := (hA.bind later_rV (R := rL (Cx.g X))).hide hide_rL
    rw [h1] at k2; cases k2
    have hlF : l ∈ F2 := ownR_mem k3
    refine tG.of (k4.mono ?_)
    rintro vs H1 ⟨keep, as1, B1, r1, O1, s1, x1, c1, o1, r2, e2, p1⟩
    unfold mutF at e2
    split at e2
    · rename_i b3 fs3 q3
      split at e2
      · rename_i ds3 es3 q4 q5
        obtain ⟨ys, q6, q7⟩ := Option.bind_eq_some_iff.mp q5
        cases q8 : g ds3 es3 with
        | none => rw [q8] at e2; cases e2
        | some z =>
          obtain ⟨ds', d⟩ := z
          rw [q8] at e2
          cases e2
          obtain ⟨l', dx', gs', as', m1, m2, m3, own', hk', fl', nd', hO'⟩ := c1.objAt q3 hC
          rw [h1] at m1; cases m1
          have m2' := m2
          rw [keep l hlF, h2] at m2'; cases m2'
          obtain ⟨v3, F3, n1, n2, n3⟩ := fls_look hk' fl' q4
          rw [g1] at n1; cases n1
          obtain ⟨a3, ea, rfl, xs3, e3, dx3⟩ := n2
          cases ea
          refine ⟨B1, a, xs3, ds3, es3, ds', d, c1.sub, rfl, e3, dx3, dataAll_of q7 (c1.looks2_ q6 x1), q8, fun xs' v dx4 dv => ?_⟩
          obtain ⟨c5, s5⟩ := c1.changeF (o := .lst xs') (x' := .lst ds') q3 hC q4 one_lst h1 m2 g1 ⟨a, rfl, rfl, xs', upd_same, dx4⟩
          exact p1 B1 _ O1 v s5 c5 (bor_same (objF_some q3) fun z => z) dv
      · cases e2
    · cases e2
  · cases e
/-- k in x.f, a dict -/
theorem inF_read {neg : Bool} {i : Nat} {mk : M AV} {σ : L2.St} {H : Hp} {Q : VK} (hC : PySem.W.nsIn X.K mainGlobals C = some (some (.ref Ca))) (cl : Cls X.K Ca) (na : NoAttr X.K Ca f) (h : tG (Cx.g X) W (mInF neg C i f mk) (rV (Cx.g X)) σ H Q) :
    tG (Cx.g X) W mk (rA (Cx.g X)) σ H fun y H1 => tFld X.K (tVar i) f σ H1 fun x H2 => ∃ a o, x = .ref a ∧ DGet H2 a y o ∧ Q (.bl (if neg then !o.isSome else o.isSome)) H2 := by
  obtain ⟨B, r, O, h⟩ := h
  refine tG.of ((h.bind later_rV (R := rA (Cx.g X))).mono ?_)
  rintro y H2 ⟨a, B2, r2, O2, s2, x2, c, o2, r3, e2, p2⟩
  unfold fInF at e2
  split at e2
  · rename_i kvs k qd qk
    cases e2
    obtain ⟨l, dx, gs, a', vs, h1, h2, h3, h4, h5⟩ := c.dctAt qd hC
    have := keyAt_of c qk x2
    subst this
    have kv := kv_val h5 k
    refine ⟨_, h1, l, Ca, dx, gs, _, rfl, h2, cl, na, h3, a', valV vs k, rfl, DGet.k h4, ?_⟩
    have e : (valV vs k).isSome = (valD kvs k).isSome := by
      cases q : valD kvs k with
      | none => rw [q] at kv; rw [kv]; rfl
      | some v => rw [q] at kv; obtain ⟨w, w1, _⟩ := kv; rw [w1]; rfl
    rw [e]
    exact p2 B2 H2 O2 _ .refl c .refl (.bl _)
  · cases e2
theorem de_inF {d e : Expr} {pos fpos : Pos} {i : Nat} {mk : M AV} (hC : PySem.W.nsIn X.K mainGlobals C = some (some (.ref Ca))) (cl : Cls X.K Ca) (na : NoAttr X.K Ca f) (hu : X.A.units + 1 < cLine) (he : DO X W e mk) (ho : PE X d (tVar i))
    (hb0 : attributeBase d f X.env (eval d X.env) = eval d X.env := by rfl) (hb : behindInMarks .In (.Attribute d f fpos) = false := by rfl) : DE X W (.Compare e [.In] [.Attribute d f fpos] pos) (mInF false C i f mk) :=
  pe_weak (pe_cmp (pc_din hu he (pe_fld ho hb0)) hb) fun σ H Q h => inF_read hC cl na h
end
end DL
end

section
set_option maxHeartbeats 2000000
namespace DL
open PySem PySem.Spec PySem.Calls PyProof.Rows L2
section
variable {K : PySem.W.Frag} {B H H' : Hp} {σ σ' : L2.St} {r : Ro} {O : Addr → Prop} {G : Ct2} {W : WX}
def rP (G : Ct2) : Rl (AV × D) (V × V) := fun _ B' _ _ σ p q => AvR G.K B' σ p.1 q.1 ∧ Dq G.K B' q.2 p.2
theorem later_rP : Later (rP G) := fun _ _ _ _ _ _ _ _ _ h => h
/-- an attribute set: what is held then -/
theorem fls_store {f : Str} {x : Fl} {v : V} {Fx : List Addr} (hx : FlR K B H x v Fx) : ∀ {fs : List (Str × Fl)} {gs : List (Str × V)} {as : List Addr}, gs.map (·.1) = fs.map (·.1) → FlsR K B H (fs.map (·.2)) (gs.map (·.2)) as →
    ∃ as', FlsR K B H ((putFl f x fs).map (·.2)) ((putF f v gs).map (·.2)) as' ∧ (∀ a ∈ as', a ∈ as ∨ a ∈ Fx) ∧ (as.Nodup → Fx.Nodup → (∀ a ∈ as, a ∉ Fx) → as'.Nodup)
  | [], [], as, _, r => by
    cases r
    exact ⟨Fx ++ [], .cons hx .nil, fun a ha => .inr (by simpa using ha), fun _ h _ => by simpa using h⟩
  | [], _ :: _, _, e, _ => by cases e
  | _ :: _, [], _, e, _ => by cases e
  | (k, y) :: fs, (k', w) :: gs, as, e, r => by
    simp only [List.map_cons, List.cons.injEq] at e
    obtain ⟨rfl, e⟩ := e
    cases r with
    | @cons _ _ _ _ F F' r1 r2 =>
      unfold putFl putF
      by_cases q : k' = f
      · rw [if_pos q, if_pos q]
        refine ⟨Fx ++ F', .cons hx r2, fun a ha => (List.mem_append.mp ha).elim .inr fun h => .inl (List.mem_append_right _ h), fun n1 n2 n3 => ?_⟩
        rw [List.nodup_append] at n1
        exact List.nodup_append.mpr ⟨n2, n1.2.1, fun a ha b hb z => n3 b (List.mem_append_right _ hb) (z ▸ ha)⟩
      · rw [if_neg q, if_neg q]
        obtain ⟨as', i1, i2, i3⟩ := fls_store hx e r2
        refine ⟨F ++ as', .cons r1 i1, fun a ha => ?_, fun n1 n2 n3 => ?_⟩
        · rcases List.mem_append.mp ha with h | h
          · exact .inl (List.mem_append_left _ h)
          · exact (i2 a h).elim (fun z => .inl (List.mem_append_right _ z)) .inr
        · rw [List.nodup_append] at n1
          refine List.nodup_append.mpr ⟨n1.1, i3 n1.2.1 n2 fun a ha => n3 a (List.mem_append_right _ ha), fun a ha b hb z => ?_⟩
          subst z
          rcases i2 a hb with h | h
          · exact n1.2.2 a ha a h rfl
          · exact n3 a (List.mem_append_left _ ha) h
end
section
variable {X : Cx} {W : WX} {C : Str} {Ca : Addr} {f : Str}
theorem hide_rP {σ : L2.St} {H : Hp} : ∀ (B' H' : Hp) (O' : Addr → Prop) (F : List Addr) (a : AV × D) (y : V × V), (∀ x ∈ F, H x ≠ none) → (rP (Cx.g X)) H B' H' O' σ a y → (rP (Cx.g X)) H B' H' (fun x => O' x ∨ x ∈ F) σ a y := fun _ _ _ _ _ _ _ h => h
/-- x.f.get(k, d) -/
theorem de_get2F {d e e2 : Expr} {pos apos fpos : Pos} {i : Nat} {mk : M AV} {md : M RV} (hC : PySem.W.nsIn X.K mainGlobals C = some (some (.ref Ca))) (cl : Cls X.K Ca) (na : NoAttr X.K Ca f) (hu : X.A.units + 1 < cLine) (ho : PE X d (tVar i)) (he : DO X W e mk) (hd : DE X W e2 md)
    (hb : attributeBase d f X.env (eval d X.env) = eval d X.env := by rfl)
    (hbase : attributeBase (.Attribute d f fpos) "get" X.env (eval (.Attribute d f fpos) X.env) = eval (.Attribute d f fpos) X.env := by rfl)
    (hfew : ((backTo pos (starEach [e, e2] X.env)).all (fun x => !x.1) && (backToKw pos (keywordEach [] X.env)).all (fun x => x.1.isSome) && decide (([e, e2] : List Expr).length + ([] : List Keyword).length + (if ([] : List Keyword).isEmpty then 0 else 1) < 30)) = true := by rfl)
    (hline : (apos.endLine == pos.line) = true := by rfl) (htr : backTo pos (starEach [e, e2] X.env) = [(false, eval e X.env), (false, eval e2 X.env)] := by rfl) :
    DE X W (.Call (.Attribute (.Attribute d f fpos) "get" apos) [e, e2] [] pos) (mGet2F C i f mk md) := pe_weak (pe_dget2 hu (pe_fld ho hb) he hd ⟨hbase, hfew, hline, htr⟩) fun σ H Q ⟨B, r, O, c, o, r', e, p⟩ => by
  unfold mGet2F at e
  split at e
  · rename_i hs
    obtain ⟨kvs0, q0⟩ := Option.isSome_iff_exists.mp hs
    obtain ⟨l, dx, gs, a, vs, h1, h2, h3, h4, h5⟩ := c.dctAt q0 hC
    refine ⟨_, h1, l, Ca, dx, gs, _, rfl, h2, cl, na, h3, a, rfl, .inl ⟨vs, .of h4⟩, ?_⟩
    have hA : At (Cx.g X) W ((mHide i (mk.bind fun a => (mFz md).bind fun d => M.ret (a, d))).bind fun p => fGetF C i f p.1 p.2) (rV (Cx.g X)) B r O σ H Q := ⟨c, o, r', e, p⟩
    obtain ⟨b2, ct, l2, F2, k1, k2, k3, k4⟩ := (hA.bind later_rV (R := rP (Cx.g X))).hide hide_rP
    rw [h1] at k2; cases k2
    have hlF : l ∈ F2 := ownR_mem k3
    refine tG.of ((k4.bind later_rP (R := rA (Cx.g X))).mono ?_)
    rintro y H2 ⟨a2, B2, r2, O2, s2, x2, t2⟩
    refine tG.of (At.froz ((t2.bind later_rP (R := rD (Cx.g X))).mono ?_))
    rintro z H3 ⟨d3, B3, r3, O3, s3, x3, c3, o3, r3', e3, p3⟩
    cases e3
    obtain ⟨keep, pr, B4, r4, O4, s4, x4, c4, o4, r5, e4, p4⟩ := p3 B3 H3 O3 (y, z) .refl c3 .refl ⟨AvR.same s3.sB x2, x3⟩
    unfold fGetF at e4
    split at e4
    · rename_i kvs k qd qk
      cases e4
      obtain ⟨l', dx', gs', a', vs', m1, m2, m3, m4, m5⟩ := c4.dctAt qd hC
      rw [h1] at m1; cases m1
      rw [keep l hlF, h2] at m2; cases m2
      rw [h3] at m3; cases m3
      have := keyAt_of c4 qk x4.1
      subst this
      have kv := kv_val m5 k
      refine ⟨valV vs' k, DGet.k m4, ?_⟩
      cases qv : valD kvs k with
      | none =>
        rw [qv] at kv p4
        rw [kv]
        exact p4 B4 H3 O4 _ .refl c4 .refl x4.2
      | some v =>
        rw [qv] at kv p4
        obtain ⟨w, w1, w2⟩ := kv
        rw [w1]
        exact p4 B4 H3 O4 w .refl c4 .refl w2
    · cases e4
  · cases e
/-- x.f[k] = e -/
theorem ds_putF {d ke e : Expr} {tpos pos fpos : Pos} {i : Nat} {me : M RV} {mk : M AV} (hC : PySem.W.nsIn X.K mainGlobals C = some (some (.ref Ca))) (cl : Cls X.K Ca) (na : NoAttr X.K Ca f) (hu : X.A.units + 1 < cLine) (ho : PE X d (tVar i)) (hk : DO X W ke mk) (he : DE X W e me)
    (hb : attributeBase d f X.env (eval d X.env) = eval d X.env := by rfl) (hs : swapsWith e (some (.Subscript (.Attribute d f fpos) ke tpos)) pos.line X.env = pure false := by rfl) :
    DS X W (.Assign [.Subscript (.Attribute d f fpos) ke tpos] e pos) (sPutF C i f me mk) := ps_weak (ps_dput hu (pe_fld ho hb) hk he hs) fun D σ H ⟨B, r, O, h⟩ => by
  refine tG.of (h.exF.mono ?_)
  rintro y H1 ⟨v, B1, r1, O1, s1, b1, x1, c1, o, r', e1, p⟩
  split at e1
  · rename_i hd
    obtain ⟨kvs0, q0⟩ := Option.isSome_iff_exists.mp hd
    obtain ⟨l, dx, gs, a, vs, h1, h2, h3, h4, h5⟩ := c1.dctAt q0 hC
    refine ⟨_, h1, l, Ca, dx, gs, _, rfl, h2, cl, na, h3, ?_⟩
    have hA : AtS (Cx.g X) W (sEx (mHide i mk) (putF1 C i f v)) B1 r1 O1 σ H1 D := AtS.after s1 c1 b1 e1 p
    obtain ⟨b2, ct, l2, F2, k1, k2, k3, k4⟩ := (hA.ex (R := rA (Cx.g X))).hide hide_rA
    rw [h1] at k2; cases k2
    have hlF : l ∈ F2 := ownR_mem k3
    refine tG.of (k4.mono ?_)
    rintro z H2 ⟨keep, a2, B2, r2, O2, s2, b3, x2, c2, o2, r3, e2, p2⟩
    unfold putF1 at e2
    split at e2
    · rename_i b4 fs4 k q4 qk
      split at e2
      · rename_i kvs q5
        split at e2
        · rename_i hlen
          cases e2
          obtain ⟨l', dx', gs', as', m1, m2, m3, own', hk', fl', nd', hO'⟩ := c2.objAt q4 hC
          rw [h1] at m1; cases m1
          have m2' := m2
          rw [keep l hlF, h2] at m2'; cases m2'
          obtain ⟨v3, F3, n1, n2, n3⟩ := fls_look hk' fl' q5
          rw [h3] at n1; cases n1
          obtain ⟨a3, ea, rfl, vs3, e3, kv3⟩ := n2
          cases ea
          have := keyAt_of c2 qk x2
          subst this
          have kp := kv_put kv3 k (dp_same s2.sB x1)
          obtain ⟨c5, s5⟩ := c2.changeF (o := .dK (putK vs3 k y)) (x' := .dK (putD kvs k v)) q4 hC q5 one_dK h1 m2 h3 ⟨a, rfl, rfl, _, upd_same, kp⟩
          exact ⟨a, _, rfl, DPut.k e3 (by rw [kv3.length, ← line_eq]; exact hlen), p2 B2 _ O2 σ (s2.trans s5) c5 (b3.trans (bor_same (objF_some q4) fun z => z))⟩
        · cases e2
      · cases e2
    · cases e2
  · cases e1
/-- x.f = e -/
theorem ds_fldS {x e : Expr} {tpos pos : Pos} {i : Nat} {m : M RV} (hC : PySem.W.nsIn X.K mainGlobals C = some (some (.ref Ca))) (cl : Cls X.K Ca) (na : NoAttr X.K Ca f) (ho : PE X x (tVar i)) (he : DE X W e m)
    (hs : swapsWith e (some (.Attribute x f tpos)) pos.line X.env = pure false := by rfl) : DS X W (.Assign [.Attribute x f tpos] e pos) (sFldS C i f m) := ps_weak (ps_fld ho he hs) fun D σ H ⟨B, r, O, h⟩ => by
  refine tG.of ((h.ex (R := rV (Cx.g X))).mono ?_)
  rintro y H1 ⟨v, B1, r1, O1, s1, b1, x1, c1, o, r', e1, p⟩
  unfold stF at e1
  split at e1
  · rename_i b fs q
    split at e1
    · rename_i fx q1
      split at e1
      · rename_i hlen
        cases e1
        obtain ⟨l, dx, gs, as, h1, h2, h3, own, hk, fl, nd, hO⟩ := c1.objAt q hC
        have hx : ∃ Fx, FlR X.K B1 H1 fx y Fx ∧ Fx.Nodup ∧ ∀ a ∈ Fx, H a = none ∧ B1 a = none ∧ ¬ O1 a := by
          cases v with
          | val d => cases q1; exact ⟨[], ⟨rfl, x1⟩, List.nodup_nil, fun a ha => by cases ha⟩
          | new ct =>
            cases ct with
            | lst ds =>
              cases q1
              obtain ⟨l', F', rfl, ⟨rfl, vs, g1, g2⟩, g3⟩ := x1
              exact ⟨[l'], ⟨l', rfl, rfl, vs, g1, g2⟩, by simp, g3⟩
            | dK ds =>
              cases q1
              obtain ⟨l', F', rfl, ⟨rfl, vs, g1, g2⟩, g3⟩ := x1
              exact ⟨[l'], ⟨l', rfl, rfl, vs, g1, g2⟩, by simp, g3⟩
            | _ => cases q1
        obtain ⟨Fx, fr, ndx, hFx⟩ := hx
        obtain ⟨as', t1, t2, t3⟩ := fls_store (f := f) fr hk fl
        have nd1 := List.nodup_cons.mp nd
        have nd2 := List.nodup_cons.mp nd1.2
        have hlO : O1 l := hO l (by simp)
        have hdO : O1 dx := hO dx (by simp)
        have nds := t3 nd2.2 ndx fun a ha hb => (hFx a hb).2.2 (hO a (by simp [ha]))
        have nl : l ∉ as' := fun z => (t2 l z).elim (fun z => nd1.1 (List.mem_cons_of_mem _ z)) fun z => (hFx l z).2.2 hlO
        have ndx' : dx ∉ as' := fun z => (t2 dx z).elim (fun z => nd2.1 z) fun z => (hFx dx z).2.2 hdO
        have nld : l ≠ dx := fun z => nd1.1 (by rw [z]; simp)
        have live1 := flR_some fr
        refine ⟨_, h1, l, Ca, dx, gs, rfl, h2, cl, na, by
          have := congrArg List.length hk
          rw [List.length_map, List.length_map] at this
          omega, ?_⟩
        have cg := c1.grow (F := Fx) fun a ha => ⟨(hFx a ha).2.1, live1 a ha⟩
        have c2 := cg.change3 (ct' := .obj C (putFl f fx fs)) (F' := l :: dx :: as') (H' := upd H1 l (.ins Ca dx (putF f y gs))) (objF_some q) h1 own (fun a ha => upd_ne fun z => ha (by rw [z]; simp))
          ⟨Ca, dx, _, as', rfl, hC, upd_same, by rw [upd_ne (Ne.symm nld)]; exact h3, List.nodup_cons.mpr ⟨fun z => (List.mem_cons.mp z).elim nld nl, List.nodup_cons.mpr ⟨ndx', nds⟩⟩, putFl_keys hk, flsR_same t1 (Same.refl _) fun a ha => upd_ne fun z => nl (z ▸ ha)⟩
          (fun a ha => by
            rcases List.mem_cons.mp ha with rfl | ha
            · exact .inl (by simp)
            · rcases List.mem_cons.mp ha with rfl | ha
              · exact .inl (by simp)
              · rcases t2 a ha with z | z
                · exact .inl (by simp [z])
                · refine .inr ⟨.inr z, fun j b2 c2 l2 F2 n e2 s2 o2 z2 => ?_⟩
                  obtain ⟨m2, G2, w1, w2, w3⟩ := c1.own j b2 c2 e2
                  rw [s2] at w1; cases w1
                  rw [ownR_uniq o2 w2 fun _ _ => rfl] at w3
                  exact (hFx a z).2.2 (w3 a z2)) (live_upd l _) (fun rows e => by cases e)
        refine p B1 _ (fun a => O1 a ∨ a ∈ Fx) σ ⟨s1.sB, fun a o h n => ?_, fun a h => live_upd l _ a (s1.live a h), s1.nB, fun a h => ?_⟩ c2 (b1.trans (bor_same (objF_some q) fun z => z))
        · rw [upd_ne fun z => by
            subst z
            rcases s1.nO a hlO with z | z
            · exact n z
            · rw [z] at h; cases h]
          exact s1.keep a o h n
        · rcases h with h | h
          · exact s1.nO a h
          · exact .inr (hFx a h).1
      · cases e1
    · cases e1
  · cases e1
end
end DL
end

section
set_option maxHeartbeats 2000000
namespace DL
open PySem PySem.Spec PySem.Calls PyProof.Rows L2
section
variable {X : Cx} {CX : CXT} {k : Nat} {f C : Addr} {fd : FuncData} {ps : List Str} {sp : Sp} {E : L2.St → XK} {x m : Str} {p pos apos : Pos} {e o : Expr} {es : List Expr} {ta : TE} {t : TA}
/-- o.m(e, ..): what it raises is wanted at the slots as they stand -/
def tMethD (C : Addr) (m : Str) (sp : Sp) (E : L2.St → XK) (ta : TE) (t : TA) : TE := fun σ H Q => ta σ H fun x H1 => ∃ a dx fs, x = .ref a ∧ H1 a = some (.ins C dx fs) ∧ fs.lookup m = none ∧ t σ H1 fun vs H2 => sp (x :: vs) H2 Q (E σ)
theorem pe_methD {pl : PySem.Sem Bool} (he : PE X o ta) (c : Cls X.K C) (hm : Meth X.K C m f) (F : FnOk X.prog X.w X.K X.mg X.base CX k f fd ps sp) (hr : Room k X.A) (hb : Binds X.K fd ps []) (hx : ∀ σ, PassesAt CX X σ (E σ)) (ha : PA X (e :: es) t)
    (hst : starEach (e :: es) X.env = (false, eval e X.env) :: starEach es X.env := by rfl) (hpl : (backTo pos (starEach es X.env)).any (·.1) = false := by rfl)
    (ht : eval (.Call (.Attribute o m apos) (e :: es) [] pos) X.env = (do
      let ov ← eval o X.env
      standAt apos.atName
      let (f, first) ← holding [ov] (getMethod ov m pl)
      callWith pos f first (backTo pos (starEach (e :: es) X.env)) (backToKw pos (keywordEach [] X.env))) := by rfl) :
    PE X (.Call (.Attribute o m apos) (e :: es) [] pos) (tMethD C m sp E ta t) := by
  refine ⟨fun pins s σ H Q I h => ?_⟩
  refine PySem.W.methodCall_KW (pl := pl) (thn (he.run pins s σ H _ I h) fun u s1 ⟨x, H1, I1, rx, a, dx, fs, ex, ea, l, q⟩ => ?_) ht
  subst ex
  obtain rfl : u = Value.ref a := rx
  refine getmeth_ok I1 ea c hm l ?_
  refine PySem.W.callWith_K (first := [.ref a]) (h₀ := X.base) I.ok.mod.kin hm.kp (thn (ha.run pos pins s1 σ H1 _ I1 q) fun us s2 ⟨vs, H2, I2, r, q2⟩ => ⟨I2.kIn, ?_⟩) hst hpl
  exact run_fnS (us := .ref a :: us) (vs := .ref a :: vs) F hr hb (hx σ) I2 (.cons rfl r) q2
theorem pe_methD0 {pl : PySem.Sem Bool} (he : PE X o ta) (c : Cls X.K C) (hm : Meth X.K C m f) (F : FnOk X.prog X.w X.K X.mg X.base CX k f fd ps sp) (hr : Room k X.A) (hb : Binds X.K fd ps []) (hx : ∀ σ, PassesAt CX X σ (E σ))
    (ht : eval (.Call (.Attribute o m apos) [] [] pos) X.env = (do
      let ov ← eval o X.env
      standAt apos.atName
      let (f, first) ← holding [ov] (getMethod ov m pl)
      callWith pos f first (backTo pos (starEach [] X.env)) (backToKw pos (keywordEach [] X.env))) := by rfl) :
    PE X (.Call (.Attribute o m apos) [] [] pos) (tMethD C m sp E ta tNil) := by
  refine ⟨fun pins s σ H Q I h => ?_⟩
  refine PySem.W.methodCall_KW (pl := pl) (thn (he.run pins s σ H _ I h) fun u s1 ⟨x, H1, I1, rx, a, dx, fs, ex, ea, l, q⟩ => ?_) ht
  subst ex
  obtain rfl : u = Value.ref a := rx
  refine getmeth_ok I1 ea c hm l ?_
  exact PySem.W.callWith_K0 (first := [.ref a]) I1.kIn hm.kp (run_fnS (us := [.ref a]) (vs := [.ref a]) F hr hb (hx σ) I1 (.cons rfl .nil) q)
/-- C(): a new instance and its dict, then __init__ -/
def tMakeD (C : Addr) (sp : Sp) (E : L2.St → XK) : TE := fun σ H Q => ∀ a dx, H a = none → H dx = none → dx ≠ a →
  sp [.ref a] (upd (upd H dx (.own a)) a (.ins C dx [])) (fun v H2 => v = .non ∧ Q (.ref a) H2) (E σ)
theorem pe_makeD0 (M : Mk X.K C f) (F : FnOk X.prog X.w X.K X.mg X.base CX k f fd ps sp) (hr : Room (k + 1) X.A) (hg : Gl X x) (hm : X.mg x = some (.ref C)) (hb : Binds X.K fd ps []) (hx : ∀ σ, PassesAt CX X σ (E σ))
    (hdb : (x == ("__debug__" : Str)) = false := by decide) : PE X (.Call (.Name x p) [] [] pos) (tMakeD C sp E) := by
  refine ⟨fun pins s σ H Q I h => ?_⟩
  refine wpAny_Call_Name_kw (ld_glob I hg hm ?_ hdb)
  refine PySem.W.callWith_K0 I.kIn M.kp ?_
  have hq := h (s.heap.objs.size + 1) s.heap.objs.size (I.hok.fresh (Nat.le_succ _)) (I.hok.fresh (Nat.le_refl _)) (Nat.ne_of_lt (Nat.lt_succ_self _))
  have I2 := Inv.made (C := C) I
  have r2 : Vals [V.ref (s.heap.objs.size + 1)] [Value.ref (s.heap.objs.size + 1)] := .cons rfl .nil
  have hl : ([Value.ref (s.heap.objs.size + 1)] ++ ([] : List Value)).length = ps.length := by
    have e := r2.length
    rw [F.len _ _ _ _ hq] at e
    exact e.symm
  refine wpAny_call (make_map (f := f) I.kIn M.makes M.init (beq_iff_eq.mp M.fn) (codeAny_mono (F.run _ X.stack _ _ ⟨[Value.ref (s.heap.objs.size + 1)], []⟩ ([Value.ref (s.heap.objs.size + 1)] ++ []) _ _ (E σ) (hr.make C [] [])
    (I2.env0.make C [] []) (hb _ [Value.ref (s.heap.objs.size + 1)] I2.kIn hl) r2 hq) fun r s' hq' => ?_))
  cases r with
  | error e => exact hx σ pins _ _ e s' I2 hq'
  | ok fl =>
    cases fl with
    | ret u =>
      obtain ⟨v, H', I3, rv, ev, q3⟩ := I2.after hq'
      subst ev
      exact ⟨rv, ⟨V.ref (s.heap.objs.size + 1), H', I3, rfl, q3⟩⟩
    | next => exact False.elim hq'
    | brk => exact False.elim hq'
    | cont => exact False.elim hq'
end
section
variable {X : Cx} {W : WX}
theorem oL_length : ∀ {ms : List (M AV)} {r : Ro} {as : List AV} {r' : Ro}, oL ms r = some (.ok as, r') → as.length = ms.length
  | [], r, as, r', e => by cases e; rfl
  | m :: ms, r, as, r', e => by
    unfold oL M.bind at e
    split at e
    · cases e
    · rename_i a r1 q
      simp only [M.bind] at e
      split at e
      · cases e
      · rename_i as2 r2 q2
        cases e
        rw [List.length_cons, oL_length q2, List.length_cons]
      · cases e
    · cases e
/-- what a call wants of its arguments -/
theorem call_at {sem : Sem} {ms : List (M AV)} {B : Hp} {r : Ro} {O : Addr → Prop} {σ : L2.St} {H : Hp} {Q : VK} (h : At (Cx.g X) W (mCall sem ms) (rV (Cx.g X)) B r O σ H Q) :
    At (Cx.g X) W (oL ms) (rL (Cx.g X)) B r O σ H fun vs H1 => spD X.K X.mg sem ms.length vs H1 Q (WE W σ) := by
  obtain ⟨c0, o0, r0, e0, p0⟩ := h
  refine ⟨c0, ?_⟩
  unfold mCall M.bind at e0
  cases q : oL ms r with
  | none => rw [q] at e0; cases e0
  | some z =>
    obtain ⟨o1, r1⟩ := z
    rw [q] at e0
    refine ⟨o1, r1, rfl, ?_⟩
    cases o1 with
    | exc x => cases e0; exact p0
    | ok as =>
      intro B1 H1 O1 vs s1 c1 b1 x1
      simp only at e0
      cases q2 : looks r1 as with
      | none => rw [q2] at e0; cases e0
      | some xs =>
        rw [q2] at e0
        simp only at e0
        split at e0
        · rename_i nd
          cases q3 : sem xs with
          | none => rw [q3] at e0; cases e0
          | some z3 =>
            obtain ⟨o3, ys⟩ := z3
            rw [q3] at e0
            simp only at e0
            split at e0
            · rename_i hl
              cases e0
              have x1 : Paired (AvR X.K B1 σ) as vs := x1
              refine ⟨by rw [← x1.length]; exact oL_length q, B1, lent X.K B1 H1 O1 xs vs, xs, call_in c1 q2 x1 nd.1, o0, ys, q3, hl, ?_⟩
              cases o0 with
              | ok rv =>
                intro B' H' O' v s2 c2 x2
                obtain ⟨O2, s3, c3, b3, ho⟩ := call_out c1 q2 x1 nd.1 nd.2 hl s2 c2
                refine p0 B' H' O2 v (s1.trans s3) c3 (b1.trans b3) (later_rV H H1 B' H' O2 σ rv v s1.live ?_)
                cases rv with
                | val d => exact x2
                | new ct =>
                  obtain ⟨l, F, e1, o, hF⟩ := x2
                  refine ⟨l, F, e1, o, fun a ha => ⟨(hF a ha).1, (hF a ha).2.1, fun z => ?_⟩⟩
                  rcases ho a z with z | z
                  · exact c1.liv a z (hF a ha).1
                  · exact (hF a ha).2.2 z
              | exc x =>
                intro B' H' O' c dx s2 c2 x2
                obtain ⟨O2, s3, c3, b3, ho⟩ := call_out c1 q2 x1 nd.1 nd.2 hl s2 c2
                exact p0 B' H' O2 c dx (s1.trans s3) c3 (b1.trans b3) ((x2.out ho c1.liv).later s1.live)
            · cases e0
        · cases e0
/-- the arguments behind an own slot -/
theorem oL_slot {i : Nat} {ms : List (M AV)} {B : Hp} {r : Ro} {O : Addr → Prop} {σ : L2.St} {H : Hp} {Q : List V → Hp → Prop} {l : Addr} (hl : σ[i]? = some (some (V.ref l))) {b : Bool} {ct : Ct} (hi : r[i]? = some (.own b ct))
    (h : At (Cx.g X) W (oL (oS i :: ms)) (rL (Cx.g X)) B r O σ H Q) : At (Cx.g X) W (oL ms) (rL (Cx.g X)) B r O σ H fun vs H1 => Q (.ref l :: vs) H1 := by
  obtain ⟨c0, o0, r0, e0, p0⟩ := h
  have e1 : oS i r = some (.ok (.slot i), r) := by
    unfold oS
    simp only [DL.look2, hi]
  refine ⟨c0, ?_⟩
  unfold oL M.bind at e0
  rw [e1] at e0
  simp only [M.bind] at e0
  cases q : oL ms r with
  | none => rw [q] at e0; cases e0
  | some z =>
    obtain ⟨o1, r1⟩ := z
    rw [q] at e0
    refine ⟨o1, r1, rfl, ?_⟩
    cases o1 with
    | exc x => cases e0; exact p0
    | ok as =>
      cases e0
      exact fun B1 H1 O1 vs s1 c1 b1 x1 => p0 B1 H1 O1 _ s1 c1 b1 (.cons hl x1)
variable {C m : Str} {Ca : Addr}
theorem meth_at {sem : Sem} {i : Nat} {ms : List (M AV)} {σ : L2.St} {H : Hp} {Q : VK} (hC : PySem.W.nsIn X.K mainGlobals C = some (some (.ref Ca))) (h : tG (Cx.g X) W (mMeth C m sem i ms) (rV (Cx.g X)) σ H Q) :
    tMethD Ca m (spD X.K X.mg sem (ms.length + 1)) (fun σ => WE W σ) (tVar i) (tG (Cx.g X) W (oL ms) (rL (Cx.g X))) σ H Q := by
  obtain ⟨B, r, O, c, o, r', e, p⟩ := h
  unfold mMeth at e
  split at e
  · rename_i b fs q
    split at e
    · rename_i hn
      obtain ⟨l, dx, gs, as, h1, h2, h3, own, hk, fl, nd, hO⟩ := c.objAt q hC
      have hg : gs.lookup m = none := by
        have : ∀ {fs : List (Str × Fl)} {gs : List (Str × V)}, gs.map (·.1) = fs.map (·.1) → fs.lookup m = none → gs.lookup m = none := by
          intro fs
          induction fs with
          | nil =>
            intro gs e _
            cases gs with
            | nil => rfl
            | cons a l => cases e
          | cons y fs ih =>
            intro gs e h
            cases gs with
            | nil => cases e
            | cons z gs =>
              obtain ⟨k1, y⟩ := y
              obtain ⟨k2, z⟩ := z
              simp only [List.map_cons, List.cons.injEq] at e
              obtain ⟨rfl, e⟩ := e
              rw [List.lookup_cons] at h ⊢
              cases q : (m == k2) with
              | true => rw [q] at h; cases h
              | false => rw [q] at h; exact ih e h
        exact this hk (by simpa using hn)
      have hA : At (Cx.g X) W (mCall sem (oS i :: ms)) (rV (Cx.g X)) B r O σ H Q := ⟨c, o, r', e, p⟩
      exact ⟨_, h1, l, dx, gs, rfl, h2, hg, tG.of (oL_slot h1 (objF_some q) (call_at hA))⟩
    · cases e
  · cases e
/-- x.m(e, ..) -/
theorem de_meth {k : Nat} {f : Addr} {fd : FuncData} {ps : List Str} {sem : Sem} {x e : Expr} {es : List Expr} {apos pos : Pos} {i : Nat} {ms : List (M AV)} {pl : PySem.Sem Bool} (tk : L2N.Takes X W) (hC : PySem.W.nsIn X.K mainGlobals C = some (some (.ref Ca))) (cl : Cls X.K Ca) (hm : Meth X.K Ca m f)
    (F : FnOk X.prog X.w X.K X.mg X.base (L2N.CX X.prog X.w) k f fd ps (spD X.K X.mg sem ps.length)) (hr : Room k X.A) (hb : Binds X.K fd ps []) (hn : ms.length + 1 = ps.length) (ho : PE X x (tVar i)) (ha : DA X W (e :: es) (oL ms))
    (hst : starEach (e :: es) X.env = (false, eval e X.env) :: starEach es X.env := by rfl) (hpl : (backTo pos (starEach es X.env)).any (·.1) = false := by rfl)
    (ht : eval (.Call (.Attribute x m apos) (e :: es) [] pos) X.env = (do
      let ov ← eval x X.env
      standAt apos.atName
      let (f, first) ← holding [ov] (getMethod ov m pl)
      callWith pos f first (backTo pos (starEach (e :: es) X.env)) (backToKw pos (keywordEach [] X.env))) := by rfl) :
    DE X W (.Call (.Attribute x m apos) (e :: es) [] pos) (mMeth C m sem i ms) :=
  pe_weak (pe_methD (E := fun σ => WE W σ) (pl := pl) ho cl hm F hr hb (fun σ => L2N.passAt tk σ) ha hst hpl ht) fun σ H Q h => by
    have := meth_at hC h
    rw [hn] at this
    exact this
/-- x.m() -/
theorem de_meth0 {k : Nat} {f : Addr} {fd : FuncData} {ps : List Str} {sem : Sem} {x : Expr} {apos pos : Pos} {i : Nat} {pl : PySem.Sem Bool} (tk : L2N.Takes X W) (hC : PySem.W.nsIn X.K mainGlobals C = some (some (.ref Ca))) (cl : Cls X.K Ca) (hm : Meth X.K Ca m f)
    (F : FnOk X.prog X.w X.K X.mg X.base (L2N.CX X.prog X.w) k f fd ps (spD X.K X.mg sem ps.length)) (hr : Room k X.A) (hb : Binds X.K fd ps []) (hn : 1 = ps.length) (ho : PE X x (tVar i))
    (ht : eval (.Call (.Attribute x m apos) [] [] pos) X.env = (do
      let ov ← eval x X.env
      standAt apos.atName
      let (f, first) ← holding [ov] (getMethod ov m pl)
      callWith pos f first (backTo pos (starEach [] X.env)) (backToKw pos (keywordEach [] X.env))) := by rfl) :
    DE X W (.Call (.Attribute x m apos) [] [] pos) (mMeth C m sem i []) :=
  pe_weak (pe_methD0 (E := fun σ => WE W σ) (pl := pl) ho cl hm F hr hb (fun σ => L2N.passAt tk σ) ht) fun σ H Q h => by
    obtain ⟨v, hv, l, dx, gs, rfl, h2, h3, B, r, O, c, o, r', e, p⟩ := meth_at (ms := []) hC h
    cases e
    refine ⟨_, hv, l, dx, gs, rfl, h2, h3, ?_⟩
    have := p B H O [] .refl c .refl .nil
    rw [← hn]
    exact this
/-- C() -/
theorem de_make0 {k : Nat} {f : Addr} {fd : FuncData} {ps : List Str} {sem : Sem} {x : Str} {p pos : Pos} (tk : L2N.Takes X W) (hC : PySem.W.nsIn X.K mainGlobals C = some (some (.ref Ca))) (M : Mk X.K Ca f)
    (F : FnOk X.prog X.w X.K X.mg X.base (L2N.CX X.prog X.w) k f fd ps (spD X.K X.mg sem ps.length)) (hr : Room (k + 1) X.A) (hg : Gl X x) (hm : X.mg x = some (.ref Ca)) (hb : Binds X.K fd ps []) (hn : 1 = ps.length)
    (hdb : (x == ("__debug__" : Str)) = false := by decide) : DE X W (.Call (.Name x p) [] [] pos) (mMake C sem) :=
  pe_weak (pe_makeD0 (E := fun σ => WE W σ) M F hr hg hm hb (fun σ => L2N.passAt tk σ) hdb) fun σ H Q ⟨B, r, O, c, o, r', e, p⟩ => by
    unfold mMake at e
    split at e
    · rename_i ct q
      cases e
      intro a dx ha hdx hne
      have ba : B a = none := c.sub.free ha
      have bd : B dx = none := c.sub.free hdx
      have h1a : (upd (upd H dx (.own a)) a (.ins Ca dx [])) a = some (.ins Ca dx []) := upd_same
      have h1d : (upd (upd H dx (.own a)) a (.ins Ca dx [])) dx = some (.own a) := by rw [upd_ne hne, upd_same]
      have h1o : ∀ z, z ≠ a → z ≠ dx → (upd (upd H dx (.own a)) a (.ins Ca dx [])) z = H z := fun z n1 n2 => by rw [upd_ne n1, upd_ne n2]
      generalize (upd (upd H dx (.own a)) a (.ins Ca dx [])) = H1 at *
      have ext : ∀ z o, H z = some o → H1 z = some o := fun z o h => by
        rw [h1o z (fun e => by rw [e, ha] at h; cases h) (fun e => by rw [e, hdx] at h; cases h)]
        exact h
      have own0 : OwnR X.K B H1 (.obj C []) a [a, dx] := ⟨Ca, dx, [], [], rfl, hC, h1a, h1d, by simp [Ne.symm hne], rfl, .nil⟩
      have c1 : Con X.K B H1 ([V.ref a].map some) ([Rs.ow (.obj C [])].map toSl) (fun z => z ∈ [a, dx]) := by
        refine ⟨⟨fun z o h => ext z o (c.sub z o h), fun z hz => ?_, fun z hz => ownR_some own0 z hz, rfl, fun i b d e => ?_, fun i b ct e => ?_, fun i j b c1 b' c2 l l' F F' ne e1 e2 => ?_⟩, fun i j kk e => ?_⟩
        · rcases List.mem_cons.mp hz with rfl | hz
          · exact ba
          · rw [List.mem_singleton.mp hz]; exact bd
        · cases i with
          | zero => cases e
          | succ i => simp at e
        · cases i with
          | zero => cases e; exact ⟨a, [a, dx], rfl, own0, fun z hz => hz⟩
          | succ i => simp at e
        · cases i with
          | succ i => simp at e1
          | zero =>
            cases j with
            | zero => exact absurd rfl ne
            | succ j => simp at e2
        · cases i with
          | zero => cases e
          | succ i => simp at e
      refine ⟨by rw [← hn]; rfl, B, _, [.ow (.obj C [])], c1, _, _, q, rfl, fun B' H' O' v s c' rv => ?_⟩
      have hv : v = .non := dp_non rv
      refine ⟨hv, ?_⟩
      have nin : ∀ z, H z ≠ none → ¬ z ∈ [a, dx] := fun z hz hm => by
        rcases List.mem_cons.mp hm with rfl | hm
        · exact hz ha
        · rw [List.mem_singleton.mp hm] at hz; exact hz hdx
      have h1n : ∀ z, H z ≠ none → H1 z ≠ none := fun z hz => by
        cases q5 : H z with
        | none => exact absurd q5 hz
        | some o => rw [ext z o q5]; simp
      have keep : ∀ z o, H z = some o → H' z = some o := fun z o h => s.keep z o (ext z o h) (nin z (by rw [h]; simp))
      obtain ⟨l, F, g1, g2, g3⟩ := c'.own 0 true ct rfl
      cases g1
      refine p B' H' O _ ⟨s.sB, fun z o h _ => keep z o h, fun z h => ?_, fun z h _ hb => s.nB z (h1n z h) (nin z h) hb, fun z h => .inl h⟩ (c.mono s.sB c'.sub (fun z hz => ?_) fun z hz => s.nB z (h1n z (c.liv z hz)) (nin z (c.liv z hz)) (c.off z hz)) .refl ⟨a, F, rfl, g2, fun z hz => ⟨?_, c'.off z (g3 z hz), fun hO => ?_⟩⟩
      · cases q5 : H z with
        | none => exact absurd q5 h
        | some o => rw [keep z o q5]; simp
      · cases q5 : H z with
        | none => exact absurd q5 (c.liv z hz)
        | some o => exact keep z o q5
      · rcases s.nO z (g3 z hz) with h | h
        · rcases List.mem_cons.mp h with rfl | h
          · exact ha
          · rw [List.mem_singleton.mp h]; exact hdx
        · by_cases n1 : z = a
          · rw [n1, h1a] at h; cases h
          · by_cases n2 : z = dx
            · rw [n2, h1d] at h; cases h
            · rw [← h1o z n1 n2]; exact h
      · have hz' := c.liv z hO
        rcases s.nO z (g3 z hz) with h | h
        · exact nin z hz' h
        · exact h1n z hz' h
    · cases e
end
end DL
end

section
set_option maxHeartbeats 2000000
namespace DL
open PySem PySem.Spec PySem.Calls PyProof.Rows L2
section
variable {X : Cx} {W : WX}
theorem strAt_of {K : PySem.W.Frag} {B H : Hp} {σ : L2.St} {r : Ro} {O : Addr → Prop} (c : Con K B H σ r O) {a : AV} {x : Str} {v : V} (h : strAt r a = some x) (e : AvR K B σ a v) : v = .str x := by
  unfold strAt at h
  split at h
  · rename_i y q
    cases h
    obtain ⟨rs, e3, e4⟩ := Option.bind_eq_some_iff.mp q
    exact rs_str (c.look2_ e3 e) e4
  · cases h
theorem dq_strs {K : PySem.W.Frag} {B : Hp} : ∀ xs : List Str, DqAll K B (xs.map V.str) (xs.map PyData.str)
  | [] => .nil
  | x :: xs => .cons (.str x) (dq_strs xs)
/-- x.split(y) -/
theorem de_split {o e : Expr} {apos pos : Pos} {mo me : M AV} (ho : DO X W o mo) (he : DO X W e me) (hs : starEach [e] X.env = [(false, eval e X.env)] := by rfl)
    (hbase : attributeBase o "split" X.env (eval o X.env) = eval o X.env := by rfl) (hline : (apos.endLine == pos.line) = true := by rfl) : DE X W (.Call (.Attribute o "split" apos) [e] [] pos) (mSplit mo me) :=
  pe_weak (pe_m1 PySem.F.slot_str_split PySem.F.type_str_split mt_split ho he hs hbase hline) fun σ H Q ⟨B, r, O, h⟩ => by
    refine tG.of ((h.bind later_rV (R := rA (Cx.g X))).mono ?_)
    rintro x H1 ⟨a, B1, r1, O1, s1, x1, c1, o1, r', e1, p1⟩
    simp only at e1
    split at e1
    · rename_i z q
      have hx := strAt_of c1 q x1
      subst hx
      refine ⟨⟨z, rfl⟩, tG.of ((At.bind (R := rA (Cx.g X)) (⟨c1, o1, r', e1, p1⟩ : At (Cx.g X) W (me.bind (fSplit z)) (rV (Cx.g X)) B1 r1 O1 σ H1 Q) later_rV).mono ?_)⟩
      rintro y H2 ⟨b, B2, r2, O2, s2, x2, c2, o2, r3, e2, p2⟩
      unfold fSplit at e2
      split at e2
      · rename_i w q2
        have hy := strAt_of c2 q2 x2
        subst hy
        split at e2
        · rename_i hc
          cases e2
          refine ⟨z, w, rfl, rfl, hc.1, by rw [← line_eq]; exact hc.2, fun p hp => ?_⟩
          obtain ⟨B', s, c', rv⟩ := c2.alc (show Alc X.K B2 H2 (upd H2 p (.lst ((Txt.split z w).map V.str))) (.new (.lst ((Txt.split z w).map .str))) (.ref p) from ⟨p, _, hp, rfl, dq_strs _, rfl⟩)
          exact p2 B' _ O2 _ s c' .refl rv
        · cases e2
      · cases e2
    · cases e1
/-- int(x), x a text -/
theorem cd_intS : CallD X (.type "int") gIntS := by
  intro pins s σ H vs us Q I r ⟨B, as, z, sb, p, hg, q⟩
  unfold gIntS at hg
  split at hg
  · rename_i a
    split at hg
    · rename_i x hx
      split at hg
      · rename_i hl
        cases p with
        | cons p1 p =>
          cases p
          have := rs_str p1 hx
          subst this
          cases qn : intText? x with
          | none => rw [qn] at hg; cases hg
          | some n =>
            rw [qn] at hg
            cases hg
            exact call_int_str pins s σ H _ us Q I r ⟨x, n, rfl, qn, hl, alc_val q (.int _)⟩
      · cases hg
    · cases hg
  · cases hg
theorem od_nsgn : OpD X (compareOp .NotIn) (gSgn true) := by
  intro pins s σ H x y v u Q I rx ry ⟨B, a, b, z, sb, ra, rb, hg, q⟩
  unfold gSgn at hg
  simp only at hg
  split at hg
  · rename_i c w h1 h2
    cases hg
    have e1 := rs_str ra h1
    have e2 := rs_str rb h2
    subst e1 e2
    exact op_notIn_sign pins s σ H _ _ v u Q I rx ry ⟨c, w, rfl, rfl, alc_val q (.bl _)⟩
  · cases hg
/-- x[i] of a text -/
theorem ixd_str : IxOD X gIxS := by
  intro value slice pins s σ H x y v u Q I rx ry ⟨B, a, b, z, sb, ra, rb, hg, q⟩ hs
  unfold gIxS at hg
  simp only at hg
  split at hg
  · rename_i w i h1 h2
    split at hg
    · rename_i hl
      have e1 := rs_str ra h1
      have e2 := rs_int rb h2
      subst e1 e2
      cases qc : ((ixD w.cps.toList.length i).bind fun j => w.cps.toList[j]?) with
      | none => rw [qc] at hg; cases hg
      | some c =>
        rw [qc] at hg
        cases hg
        refine ix_str value slice pins s σ H _ _ v u Q I rx ry ⟨w, i, c, rfl, rfl, by rw [← line_eq]; exact hl, ?_, alc_val q (.str _)⟩ hs
        obtain ⟨j, q1, q2⟩ := Option.bind_eq_some_iff.mp qc
        unfold atI
        rw [show ixN w.cps.toList.length i = some j from by rw [← q1]; rfl]
        exact q2
    · cases hg
  · cases hg
/-- the signs of a text, one by one -/
theorem di_str {lo : Bool} {tg e : Expr} {m : M RV} (h : DE X W e m) : DI X W lo tg e (mRowS m) := pi_weak (pi_str h) fun σ H R ⟨B, r, O, h⟩ => by
  refine tG.of (At.froz ((h.bind later_rI (R := rD (Cx.g X))).mono ?_))
  rintro v H1 ⟨d, B1, r1, O1, s1, dp, h1⟩
  have dp : Dq X.K B1 v d := dp
  obtain ⟨c, o, r', e, p⟩ := h1
  cases d with
  | str x =>
    cases e
    have := dp_str dp
    subst this
    have hl : (chrs x).length = x.cps.size := by unfold chrs; simp
    refine ⟨x, rfl, p B1 H1 O1 _ .refl c .refl ⟨fun H _ => ?_, fun i H hi _ => ?_, fun i H x2 H' d hd sH hy B2 b1 b2 => .inl ?_⟩⟩
    · show x.cps.size ≤ _
      omega
    · show i < x.cps.size
      omega
    · obtain ⟨rfl, c2, hc, rfl⟩ := hy
      refine ⟨rfl, ?_⟩
      unfold chrs at hd
      rw [List.getElem?_map, Array.getElem?_toList, hc] at hd
      cases hd
      exact .str _
  | _ => cases e
end
end DL
namespace DL
open PySem PySem.Spec PySem.Calls PyProof.Rows L2
/-- a class of the module -/
structure ClsK (K : PySem.W.Frag) (mg : Str → Option Value) (C : Str) (Ca : Addr) : Prop where
  ns : PySem.W.nsIn K mainGlobals C = some (some (.ref Ca))
  gl : mg C = some (.ref Ca)
  cl : Cls K Ca
section
variable {X : Cx} {W : WX}
/-- a text that the module names -/
theorem de_globS {x n : Str} {pos : Pos} (hg : Gl X x) (hm : ∃ t, X.mg x = some (.str n t)) (hd : (x == ("__debug__" : Str)) = false := by decide) : DE X W (.Name x pos) (mC (.str n)) := by
  obtain ⟨t, hm⟩ := hm
  exact pe_weak (pe_glob (v := .str n) hg hm ⟨t, rfl⟩ hd) fun σ H Q ⟨B, r, O, c, o, r', e, p⟩ => by
    cases e
    exact p B H O (.str n) .refl c .refl (.str n)
end
end DL
end

section
namespace DL
open PySem
section
variable {X : Exn → Ro → Prop} {r : Ro} {C f : Str} {i : Nat}
theorem E_iff {α : Type} {m : M α} {Q : α → Ro → Prop} : E X m r Q ↔ match m r with
    | some (o, r') => endP X Q o r'
    | none => False := by
  cases h : m r with
  | none => exact E_no h
  | some p => exact ⟨fun ⟨o, r', e, q⟩ => (by rw [h] at e; cases e; exact q), fun q => ⟨p.1, p.2, h, q⟩⟩
theorem W_iff {s : S} {Q : SO → Ro → Prop} : W s r Q ↔ match s r with
    | some (o, r') => Q o r'
    | none => False := by
  cases h : s r with
  | none => exact W_no h
  | some p => exact ⟨fun ⟨o, r', e, q⟩ => (by rw [h] at e; cases e; exact q), fun q => ⟨p.1, p.2, h, q⟩⟩
def objO (C : Str) : Option Sl → Option (Bool × List (Str × Fl))
  | some (.own b (.obj C' fs)) => if C' = C then some (b, fs) else none
  | _ => none
@[simp] theorem objO_own {b : Bool} {fs : List (Str × Fl)} : objO C (some (.own b (.obj C fs))) = some (b, fs) := by simp [objO]
@[simp] theorem objF_def : objF C i r = objO C r[i]? := by
  unfold objF objO
  rfl
def dFl : Fl → Option D
  | .d d => some d
  | _ => none
@[simp] theorem dFl_d {d : D} : dFl (.d d) = some d := rfl
@[simp] theorem flRs_d {d : D} : flRs (.d d) = some (.fz d) := rfl
@[simp] theorem flRs_lst {ds : List D} : flRs (.lst ds) = some (.ow (.lst ds)) := rfl
@[simp] theorem flRs_dK {ds : List (Ky × D)} : flRs (.dK ds) = some (.ow (.dK ds)) := rfl
def lstFO : Fl → Option (List D)
  | .lst ds => some ds
  | _ => none
def dKFO : Fl → Option (List (Ky × D))
  | .dK ds => some ds
  | _ => none
@[simp] theorem lstFO_l {ds : List D} : lstFO (.lst ds) = some ds := rfl
@[simp] theorem dKFO_d {ds : List (Ky × D)} : dKFO (.dK ds) = some ds := rfl
@[simp] theorem flOf_val {d : D} : flOf (.val d) = some (.d d) := rfl
@[simp] theorem flOf_lst {d : List D} : flOf (.new (.lst d)) = some (.lst d) := rfl
@[simp] theorem flOf_dK {d : List (Ky × D)} : flOf (.new (.dK d)) = some (.dK d) := rfl
@[simp, simp ↓] theorem E_mFld {Q : RV → Ro → Prop} : E X (mFld C i f) r Q ↔ optP (objF C i r) fun p => optP ((p.2.lookup f).bind dFl) fun d => Q (.val d) r := by
  rw [E_iff]
  unfold mFld
  cases objF C i r with
  | none => simp
  | some p =>
    obtain ⟨b, fs⟩ := p
    simp only [optP_some]
    cases fs.lookup f with
    | none => simp
    | some x => cases x <;> simp [dFl]
@[simp, simp ↓] theorem E_mOpF {g : List Rs → Option RV} {Q : RV → Ro → Prop} : E X (mOpF g C i f) r Q ↔ optP (objF C i r) fun p => optP ((p.2.lookup f).bind flRs) fun y => optP (g [y]) fun v => Q v r := by
  rw [E_iff]
  unfold mOpF
  cases objF C i r with
  | none => simp
  | some p =>
    obtain ⟨b, fs⟩ := p
    simp only [optP_some]
    cases fs.lookup f with
    | none => simp
    | some x =>
      simp only [Option.bind_some]
      cases flRs x with
      | none => simp
      | some y => cases h : g [y] <;> simp [h]
def ownO2 : Sl → Option (Bool × Ct)
  | .own b ct => some (b, ct)
  | _ => none
def nonO : Sl → Option Unit
  | .non => some ()
  | _ => none
@[simp] theorem ownO2_o {b : Bool} {ct : Ct} : ownO2 (.own b ct) = some (b, ct) := rfl
@[simp] theorem nonO_n : nonO .non = some () := rfl
@[simp, simp ↓] theorem E_mHide {α : Type} {m : M α} {Q : α → Ro → Prop} : E X (mHide i m) r Q ↔ optP (r[i]?.bind ownO2) fun p => setP r i .non fun r0 => E (fun _ _ => False) m r0 fun a r' => optP (r'[i]?.bind nonO) fun _ => noAl r' i = true ∧ setP r' i (.own p.1 p.2) (Q a) := by
  rw [E_iff]
  unfold mHide setP
  cases r[i]? with
  | none => simp
  | some x =>
    cases x with
    | own b ct =>
      simp only [Option.bind_some, ownO2_o, optP_some]
      rw [E_iff]
      cases m (r.set i .non) with
      | none => simp
      | some p =>
        obtain ⟨o, r1⟩ := p
        cases o with
        | exc x => simp
        | ok a =>
          simp only [endP_ok]
          cases r1[i]? with
          | none => simp
          | some y =>
            cases y with
            | non =>
              simp only [Option.bind_some, nonO_n, optP_some]
              by_cases h : noAl r1 i = true <;> simp [h]
            | _ => simp [nonO]
    | _ => simp [ownO2]
@[simp, simp ↓] theorem E_mutF {g : List D → List D → Option (List D × D)} {as : List AV} {Q : RV → Ro → Prop} : E X (mutF g C i f as) r Q ↔ optP (objF C i r) fun p => optP ((p.2.lookup f).bind lstFO) fun ds => optP ((looks2 r as).bind dataAll) fun es => optP (g ds es) fun q => setP r i (.own p.1 (.obj C (putFl f (.lst q.1) p.2))) (Q (.val q.2)) := by
  rw [E_iff]
  unfold mutF setP
  cases objF C i r with
  | none => simp
  | some p =>
    obtain ⟨b, fs⟩ := p
    simp only [optP_some]
    cases h1 : fs.lookup f with
    | none => simp
    | some x =>
      cases x with
      | lst ds =>
        simp only [Option.bind_some, lstFO_l, optP_some]
        cases h2 : (looks2 r as).bind dataAll with
        | none => simp
        | some es =>
          simp only [optP_some]
          cases h3 : g ds es <;> simp
      | _ => simp [lstFO]
@[simp, simp ↓] theorem E_mMutF {g : List D → List D → Option (List D × D)} {ms : List (M AV)} {Q : RV → Ro → Prop} : E X (mMutF g C i f ms) r Q ↔ optP (objF C i r) fun p => optP ((p.2.lookup f).bind lstFO) fun _ => E X (mHide i (oL ms)) r fun as r1 => E X (mutF g C i f as) r1 Q := by
  have e0 : E X (mMutF g C i f ms) r Q ↔ lstAtF C i f r = true ∧ E X ((mHide i (oL ms)).bind (mutF g C i f)) r Q := by
    by_cases h : lstAtF C i f r = true
    · rw [E_cong (m' := (mHide i (oL ms)).bind (mutF g C i f)) (by unfold mMutF; rw [if_pos h])]
      simp [h]
    · rw [E_no (by unfold mMutF; rw [if_neg h])]
      simp [h]
  rw [e0, E_bind]
  unfold lstAtF
  cases objF C i r with
  | none => simp
  | some p =>
    obtain ⟨b, fs⟩ := p
    simp only [optP_some]
    cases fs.lookup f with
    | none => simp
    | some x => cases x <;> simp [lstFO]
@[simp] theorem dctF_def : dctF C i f r = (objF C i r).bind fun p => (p.2.lookup f).bind dKFO := by
  unfold dctF
  cases objF C i r with
  | none => rfl
  | some p =>
    obtain ⟨b, fs⟩ := p
    simp only [Option.bind_some]
    cases fs.lookup f with
    | none => rfl
    | some x => cases x <;> rfl
@[simp, simp ↓] theorem E_fInF {neg : Bool} {a : AV} {Q : RV → Ro → Prop} : E X (fInF neg C i f a) r Q ↔ optP (dctF C i f r) fun kvs => optP (keyAt r a) fun k => Q (.val (.bool (if neg then !(valD kvs k).isSome else (valD kvs k).isSome))) r := by
  rw [E_iff]
  unfold fInF
  cases dctF C i f r <;> cases keyAt r a <;> simp
@[simp, simp ↓] theorem E_mInF {neg : Bool} {mk : M AV} {Q : RV → Ro → Prop} : E X (mInF neg C i f mk) r Q ↔ E X mk r fun a r1 => E X (fInF neg C i f a) r1 Q := E_bind
@[simp, simp ↓] theorem E_fGetF {a : AV} {d : D} {Q : RV → Ro → Prop} : E X (fGetF C i f a d) r Q ↔ optP (dctF C i f r) fun kvs => optP (keyAt r a) fun k => Q (.val ((valD kvs k).getD d)) r := by
  rw [E_iff]
  unfold fGetF
  cases dctF C i f r <;> cases keyAt r a <;> simp
@[simp, simp ↓] theorem E_mGet2F {mk : M AV} {md : M RV} {Q : RV → Ro → Prop} : E X (mGet2F C i f mk md) r Q ↔ optP (dctF C i f r) fun _ => E X (mHide i (mk.bind fun a => (mFz md).bind fun d => M.ret (a, d))) r fun p r1 => E X (fGetF C i f p.1 p.2) r1 Q := by
  cases h : dctF C i f r with
  | none =>
    rw [E_no (by unfold mGet2F; rw [h]; rfl)]
    simp
  | some kvs =>
    rw [E_cong (m' := (mHide i (mk.bind fun a => (mFz md).bind fun d => M.ret (a, d))).bind fun p => fGetF C i f p.1 p.2) (by unfold mGet2F; rw [h]; rfl), E_bind]
    simp only [optP_some]
@[simp, simp ↓] theorem W_putF1 {d : D} {a : AV} {Q : SO → Ro → Prop} : W (putF1 C i f d a) r Q ↔ optP (objF C i r) fun p => optP (keyAt r a) fun k => optP ((p.2.lookup f).bind dKFO) fun kvs => kvs.length < lineD ∧ setP r i (.own p.1 (.obj C (putFl f (.dK (putD kvs k d)) p.2))) (Q .nx) := by
  rw [W_iff]
  unfold putF1 setP
  cases objF C i r with
  | none => simp
  | some p =>
    obtain ⟨b, fs⟩ := p
    cases keyAt r a with
    | none => simp
    | some k =>
      simp only [optP_some]
      cases fs.lookup f with
      | none => simp
      | some x =>
        cases x with
        | dK kvs =>
          simp only [Option.bind_some, dKFO_d, optP_some]
          by_cases h : kvs.length < lineD <;> simp [h]
        | _ => simp [dKFO]
@[simp, simp ↓] theorem W_sPutF {me : M RV} {mk : M AV} {Q : SO → Ro → Prop} : W (sPutF C i f me mk) r Q ↔ E (fun x => Q (.exc x)) (mFz me) r fun d r1 => optP (dctF C i f r1) fun _ => E (fun x => Q (.exc x)) (mHide i mk) r1 fun a r2 => W (putF1 C i f d a) r2 Q := by
  unfold sPutF
  refine W_ex.trans ?_
  have e : ∀ (d : D) (r1 : Ro), (W (fun r => if (dctF C i f r).isSome = true then sEx (mHide i mk) (putF1 C i f d) r else none : S) r1 Q ↔ optP (dctF C i f r1) fun _ => E (fun x => Q (.exc x)) (mHide i mk) r1 fun a r2 => W (putF1 C i f d a) r2 Q) := fun d r1 => by
    have e2 : W (fun r => if (dctF C i f r).isSome = true then sEx (mHide i mk) (putF1 C i f d) r else none : S) r1 Q ↔ (dctF C i f r1).isSome = true ∧ W (sEx (mHide i mk) (putF1 C i f d)) r1 Q := by
      by_cases h : (dctF C i f r1).isSome = true
      · refine (W_congr (s' := sEx (mHide i mk) (putF1 C i f d)) (if_pos h)).trans ?_
        exact ⟨fun q => ⟨h, q⟩, fun q => q.2⟩
      · refine (W_no (if_neg h)).trans ?_
        exact ⟨fun q => q.elim, fun q => h q.1⟩
    rw [e2, W_ex]
    cases dctF C i f r1 <;> simp
  constructor
  · exact fun h => h.mono fun d r1 q => (e d r1).mp q
  · exact fun h => h.mono fun d r1 q => (e d r1).mpr q
@[simp, simp ↓] theorem W_sFldS {m : M RV} {Q : SO → Ro → Prop} : W (sFldS C i f m) r Q ↔ E (fun x => Q (.exc x)) m r fun v r1 => optP (objF C i r1) fun p => optP (flOf v) fun x => p.2.length < 900 ∧ setP r1 i (.own p.1 (.obj C (putFl f x p.2))) (Q .nx) := by
  unfold sFldS
  refine W_ex.trans ?_
  have e : ∀ (v : RV) (r1 : Ro), (W (stF C i f v) r1 Q ↔ optP (objF C i r1) fun p => optP (flOf v) fun x => p.2.length < 900 ∧ setP r1 i (.own p.1 (.obj C (putFl f x p.2))) (Q .nx)) := fun v r1 => by
    rw [W_iff]
    unfold stF setP
    cases objF C i r1 with
    | none => simp
    | some p =>
      obtain ⟨b, fs⟩ := p
      simp only [optP_some]
      cases flOf v with
      | none => simp
      | some x =>
        simp only [optP_some]
        by_cases h : fs.length < 900 <;> simp [h]
  constructor
  · exact fun h => h.mono fun d r1 q => (e d r1).mp q
  · exact fun h => h.mono fun d r1 q => (e d r1).mpr q
@[simp, simp ↓] theorem E_mMeth {m : Str} {s : Sem} {ms : List (M AV)} {Q : RV → Ro → Prop} : E X (mMeth C m s i ms) r Q ↔ optP (objF C i r) fun p => (p.2.lookup m).isNone = true ∧ E X (mCall s (oS i :: ms)) r Q := by
  cases h : objF C i r with
  | none => rw [E_no (by unfold mMeth; rw [h])]; simp
  | some p =>
    obtain ⟨b, fs⟩ := p
    simp only [optP_some]
    by_cases h2 : (fs.lookup m).isNone = true
    · rw [E_cong (m' := mCall s (oS i :: ms)) (by unfold mMeth; rw [h]; exact if_pos h2)]
      simp [h2]
    · rw [E_no (by unfold mMeth; rw [h]; exact if_neg h2)]
      simp [h2]
def mkO : Option (EO RV × List Rs) → Option Ct
  | some (.ok (.val .none), [.ow ct]) => some ct
  | _ => none
@[simp] theorem mkO_some {ct : Ct} : mkO (some (.ok (.val .none), [.ow ct])) = some ct := rfl
@[simp, simp ↓] theorem E_mMake {s : Sem} {Q : RV → Ro → Prop} : E X (mMake C s) r Q ↔ optP (mkO (s [.ow (.obj C [])])) fun ct => Q (.new ct) r := by
  have e : mMake C s r = (mkO (s [.ow (.obj C [])])).map fun ct => (EO.ok (RV.new ct), r) := by
    have g : ∀ o : Option (EO RV × List Rs), (match o with
      | some (.ok (.val .none), [.ow ct]) => some (EO.ok (RV.new ct), r)
      | _ => none) = (mkO o).map fun ct => (EO.ok (RV.new ct), r) := fun o => by
      unfold mkO
      split <;> rfl
    exact g _
  rw [E_iff, e]
  cases mkO (s [.ow (.obj C [])]) <;> simp
@[simp, simp ↓] theorem putP_obj {i : Nat} {C : Str} {fs : List (Str × Fl)} {x : Sl} {Q : SO → Ro → Prop} : putP i (.new (.obj C fs)) r Q (some x) ↔ putSl.pinnedB x = false ∧ setP r i (.own false (.obj C fs)) (Q .nx) := Iff.rfl
def strO : D → Option Str
  | .str x => some x
  | _ => none
@[simp] theorem strO_s {x : Str} : strO (.str x) = some x := rfl
@[simp] theorem strAt_def {a : AV} : strAt r a = ((look2 r a).bind Rs.data).bind strO := by
  unfold strAt
  cases (look2 r a).bind Rs.data with
  | none => rfl
  | some d => cases d <;> rfl
@[simp, simp ↓] theorem E_fSplit {x : Str} {b : AV} {Q : RV → Ro → Prop} : E X (fSplit x b) r Q ↔ optP (strAt r b) fun y => ((y.length == 0) = false ∧ x.length + 2 ≤ lineD) ∧ Q (.new (.lst ((Txt.split x y).map .str))) r := by
  rw [E_iff]
  unfold fSplit
  cases strAt r b with
  | none => simp
  | some y =>
    simp only [optP_some]
    by_cases h : (y.length == 0) = false ∧ x.length + 2 ≤ lineD
    · rw [if_pos h]
      simp only [endP_ok]
      exact ⟨fun q => ⟨h, q⟩, fun q => q.2⟩
    · rw [if_neg h]
      exact ⟨fun q => q.elim, fun q => h q.1⟩
@[simp, simp ↓] theorem E_mSplit {mo me : M AV} {Q : RV → Ro → Prop} : E X (mSplit mo me) r Q ↔ E X mo r fun a r1 => optP (strAt r1 a) fun x => E X me r1 fun b r2 => E X (fSplit x b) r2 Q := by
  unfold mSplit
  refine E_bind.trans ?_
  have e : ∀ (a : AV) (r1 : Ro), (E X (fun r => match strAt r a with
    | some x => (me.bind (fSplit x)) r
    | none => none : M RV) r1 Q ↔ optP (strAt r1 a) fun x => E X me r1 fun b r2 => E X (fSplit x b) r2 Q) := fun a r1 => by
    cases h : strAt r1 a with
    | none =>
      refine (E_no (by simp only [h])).trans ?_
      simp
    | some x =>
      refine (E_cong (m' := me.bind (fSplit x)) (by simp only [h])).trans ?_
      rw [E_bind]
      simp only [optP_some]
  constructor
  · exact fun h => h.mono fun d r1 q => (e d r1).mp q
  · exact fun h => h.mono fun d r1 q => (e d r1).mpr q
@[simp, simp ↓] theorem E_mRowS {m : M RV} {Q : List D → Ro → Prop} : E X (mRowS m) r Q ↔ E X m r fun v r' => optP v.data fun d => optP (strO d) fun x => Q (chrs x) r' := by
  unfold mRowS
  simp only [E_bind, E_mFz]
  constructor
  · intro h
    refine h.mono fun v r' ⟨d, h1, q⟩ => ⟨d, h1, ?_⟩
    cases d with
    | str x =>
      obtain ⟨o, r2, e, q⟩ := q
      cases e
      exact ⟨x, rfl, q⟩
    | _ => obtain ⟨o, r2, e, q⟩ := q; cases e
  · intro h
    refine h.mono fun v r' ⟨d, h1, x, h2, q⟩ => ⟨d, h1, ?_⟩
    cases d with
    | str y => cases h2; exact ⟨_, _, rfl, q⟩
    | _ => cases h2
end
end DL
end

section
namespace Lw
open PySem DL
section
theorem split_join {c : Nat} (hc : c < 256) {xs : List Str} (hne : xs ≠ []) (h : ∀ x ∈ xs, c ∉ x.cps.toList) : Txt.split (Str.join ⟨#[c]⟩ xs) ⟨#[c]⟩ = xs := by
  refine TL.map_tl_inj ?_
  have e1 := TL.split_spl (Str.join ⟨#[c]⟩ xs) ⟨#[c]⟩ (by simp [TL.tl]) (TL.kind_ok (by simp; omega))
  rw [e1, TL.tl_join]
  refine TL.spl_join (s := c) (S := []) (by simpa using hne) (fun p hp => ?_)
  obtain ⟨x, hx, rfl⟩ := List.mem_map.mp hp
  exact h x hx
theorem sp_eq : Str.ofString " " = ⟨#[32]⟩ := by decide +kernel
theorem nl_eq : Str.ofString "\n" = ⟨#[10]⟩ := by decide +kernel
theorem lnP_words (m : Int) : lnP m = Str.join (Str.ofString " ") [Str.ofString "places", sI m] := by
  show Str.ofString "places " ++ sI m = Str.ofString "places" ++ Str.ofString " " ++ sI m
  rw [show Str.ofString "places " = Str.ofString "places" ++ Str.ofString " " from by decide +kernel]
theorem app_assoc' (a b c : Str) : a ++ b ++ c = a ++ (b ++ c) := by
  show (⟨(a.cps ++ b.cps) ++ c.cps⟩ : Str) = ⟨a.cps ++ (b.cps ++ c.cps)⟩
  rw [Array.append_assoc]
theorem lnT_words (t : Int × Int) : lnT t = Str.join (Str.ofString " ") [Str.ofString "tie", sI t.1, sI t.2] := by
  show Str.ofString "tie " ++ sI t.1 ++ Str.ofString " " ++ sI t.2 = Str.ofString "tie" ++ Str.ofString " " ++ (sI t.1 ++ Str.ofString " " ++ sI t.2)
  rw [show Str.ofString "tie " = Str.ofString "tie" ++ Str.ofString " " from by decide +kernel, app_assoc', app_assoc']
  rw [app_assoc' (sI t.1)]
/-- no blank, no line feed -/
def Plain1 (x : Str) : Prop := 32 ∉ x.cps.toList ∧ 10 ∉ x.cps.toList
theorem sI_plain (i : Int) : Plain1 (sI i) := ⟨PyProof.Rows.int_text_free' 32 (by omega) i, PyProof.Rows.int_text_free' 10 (by omega) i⟩
theorem kw_plain : Plain1 (Str.ofString "places") ∧ Plain1 (Str.ofString "tie") ∧ Plain1 (Str.ofString "at") := by
  unfold Plain1
  decide +kernel
theorem join_mem {c : Nat} {sep : Str} : ∀ {xs : List Str}, c ∈ (Str.join sep xs).cps.toList → c ∈ sep.cps.toList ∨ ∃ x ∈ xs, c ∈ x.cps.toList
  | [], h => by
    have : (Str.join sep []).cps.toList = [] := rfl
    rw [this] at h
    cases h
  | [x], h => .inr ⟨x, List.mem_singleton_self _, h⟩
  | x :: y :: xs, h => by
    have e : (Str.join sep (x :: y :: xs)).cps.toList = x.cps.toList ++ sep.cps.toList ++ (Str.join sep (y :: xs)).cps.toList := by
      show ((x.cps ++ sep.cps) ++ (Str.join sep (y :: xs)).cps).toList = _
      rw [Array.toList_append, Array.toList_append]
    rw [e, List.mem_append, List.mem_append] at h
    rcases h with (h | h) | h
    · exact .inr ⟨x, List.mem_cons_self, h⟩
    · exact .inl h
    · rcases join_mem h with h | ⟨z, hz, h⟩
      · exact .inl h
      · exact .inr ⟨z, List.mem_cons_of_mem _ hz, h⟩
/-- a line of words -/
def lineW (ws : List Str) : Str := Str.join (Str.ofString " ") ws
theorem line_split {ws : List Str} (hne : ws ≠ []) (h : ∀ w ∈ ws, Plain1 w) : Txt.split (lineW ws) (Str.ofString " ") = ws := by
  unfold lineW
  rw [sp_eq]
  exact split_join (by omega) hne fun w hw => (h w hw).1
theorem line_free {ws : List Str} (h : ∀ w ∈ ws, Plain1 w) : 10 ∉ (lineW ws).cps.toList := fun hm => by
  unfold lineW at hm
  rcases join_mem hm with h1 | ⟨x, hx, h1⟩
  · rw [sp_eq] at h1
    simp at h1
  · exact (h x hx).2 h1
theorem text_split {ls : List Str} (hne : ls ≠ []) (h : ∀ l ∈ ls, 10 ∉ l.cps.toList) : Txt.split (Str.join (Str.ofString "\n") ls) (Str.ofString "\n") = ls := by
  rw [nl_eq]
  exact split_join (by omega) hne h
end
end Lw
end

section
namespace Lw
open PySem DL
section
variable {m : Int} {ts : List (Int × Int)}
end
end Lw
end

section
namespace Lw
open PySem DL
section
variable {m : Int} {ts : List (Int × Int)}
end
end Lw
end

section
namespace Lw
open PySem DL
section
variable {m : Int} {ts : List (Int × Int)}
end
end Lw
end

section
namespace Lw
open PySem DL
section
theorem num_0 : sem_number_in_80b2 [.fz (.str (sI ((0 : Nat) : Int)))] = some (.ok (.val (.int ((0 : Nat) : Int))), [.fz (.str (sI ((0 : Nat) : Int)))]) := by kernel_rfl
theorem num_1 : sem_number_in_80b2 [.fz (.str (sI ((1 : Nat) : Int)))] = some (.ok (.val (.int ((1 : Nat) : Int))), [.fz (.str (sI ((1 : Nat) : Int)))]) := by kernel_rfl
theorem num_2 : sem_number_in_80b2 [.fz (.str (sI ((2 : Nat) : Int)))] = some (.ok (.val (.int ((2 : Nat) : Int))), [.fz (.str (sI ((2 : Nat) : Int)))]) := by kernel_rfl
theorem num_3 : sem_number_in_80b2 [.fz (.str (sI ((3 : Nat) : Int)))] = some (.ok (.val (.int ((3 : Nat) : Int))), [.fz (.str (sI ((3 : Nat) : Int)))]) := by kernel_rfl
theorem num_4 : sem_number_in_80b2 [.fz (.str (sI ((4 : Nat) : Int)))] = some (.ok (.val (.int ((4 : Nat) : Int))), [.fz (.str (sI ((4 : Nat) : Int)))]) := by kernel_rfl
theorem num_5 : sem_number_in_80b2 [.fz (.str (sI ((5 : Nat) : Int)))] = some (.ok (.val (.int ((5 : Nat) : Int))), [.fz (.str (sI ((5 : Nat) : Int)))]) := by kernel_rfl
theorem num_6 : sem_number_in_80b2 [.fz (.str (sI ((6 : Nat) : Int)))] = some (.ok (.val (.int ((6 : Nat) : Int))), [.fz (.str (sI ((6 : Nat) : Int)))]) := by kernel_rfl
theorem num_7 : sem_number_in_80b2 [.fz (.str (sI ((7 : Nat) : Int)))] = some (.ok (.val (.int ((7 : Nat) : Int))), [.fz (.str (sI ((7 : Nat) : Int)))]) := by kernel_rfl
theorem num_8 : sem_number_in_80b2 [.fz (.str (sI ((8 : Nat) : Int)))] = some (.ok (.val (.int ((8 : Nat) : Int))), [.fz (.str (sI ((8 : Nat) : Int)))]) := by kernel_rfl
theorem num_9 : sem_number_in_80b2 [.fz (.str (sI ((9 : Nat) : Int)))] = some (.ok (.val (.int ((9 : Nat) : Int))), [.fz (.str (sI ((9 : Nat) : Int)))]) := by kernel_rfl
theorem num_10 : sem_number_in_80b2 [.fz (.str (sI ((10 : Nat) : Int)))] = some (.ok (.val (.int ((10 : Nat) : Int))), [.fz (.str (sI ((10 : Nat) : Int)))]) := by kernel_rfl
theorem num_11 : sem_number_in_80b2 [.fz (.str (sI ((11 : Nat) : Int)))] = some (.ok (.val (.int ((11 : Nat) : Int))), [.fz (.str (sI ((11 : Nat) : Int)))]) := by kernel_rfl
theorem num_12 : sem_number_in_80b2 [.fz (.str (sI ((12 : Nat) : Int)))] = some (.ok (.val (.int ((12 : Nat) : Int))), [.fz (.str (sI ((12 : Nat) : Int)))]) := by kernel_rfl
theorem num_13 : sem_number_in_80b2 [.fz (.str (sI ((13 : Nat) : Int)))] = some (.ok (.val (.int ((13 : Nat) : Int))), [.fz (.str (sI ((13 : Nat) : Int)))]) := by kernel_rfl
theorem num_14 : sem_number_in_80b2 [.fz (.str (sI ((14 : Nat) : Int)))] = some (.ok (.val (.int ((14 : Nat) : Int))), [.fz (.str (sI ((14 : Nat) : Int)))]) := by kernel_rfl
theorem num_15 : sem_number_in_80b2 [.fz (.str (sI ((15 : Nat) : Int)))] = some (.ok (.val (.int ((15 : Nat) : Int))), [.fz (.str (sI ((15 : Nat) : Int)))]) := by kernel_rfl
theorem num_16 : sem_number_in_80b2 [.fz (.str (sI ((16 : Nat) : Int)))] = some (.ok (.val (.int ((16 : Nat) : Int))), [.fz (.str (sI ((16 : Nat) : Int)))]) := by kernel_rfl
theorem num_17 : sem_number_in_80b2 [.fz (.str (sI ((17 : Nat) : Int)))] = some (.ok (.val (.int ((17 : Nat) : Int))), [.fz (.str (sI ((17 : Nat) : Int)))]) := by kernel_rfl
theorem num_18 : sem_number_in_80b2 [.fz (.str (sI ((18 : Nat) : Int)))] = some (.ok (.val (.int ((18 : Nat) : Int))), [.fz (.str (sI ((18 : Nat) : Int)))]) := by kernel_rfl
theorem num_19 : sem_number_in_80b2 [.fz (.str (sI ((19 : Nat) : Int)))] = some (.ok (.val (.int ((19 : Nat) : Int))), [.fz (.str (sI ((19 : Nat) : Int)))]) := by kernel_rfl
theorem num_20 : sem_number_in_80b2 [.fz (.str (sI ((20 : Nat) : Int)))] = some (.ok (.val (.int ((20 : Nat) : Int))), [.fz (.str (sI ((20 : Nat) : Int)))]) := by kernel_rfl
theorem num_21 : sem_number_in_80b2 [.fz (.str (sI ((21 : Nat) : Int)))] = some (.ok (.val (.int ((21 : Nat) : Int))), [.fz (.str (sI ((21 : Nat) : Int)))]) := by kernel_rfl
theorem num_22 : sem_number_in_80b2 [.fz (.str (sI ((22 : Nat) : Int)))] = some (.ok (.val (.int ((22 : Nat) : Int))), [.fz (.str (sI ((22 : Nat) : Int)))]) := by kernel_rfl
theorem num_23 : sem_number_in_80b2 [.fz (.str (sI ((23 : Nat) : Int)))] = some (.ok (.val (.int ((23 : Nat) : Int))), [.fz (.str (sI ((23 : Nat) : Int)))]) := by kernel_rfl
theorem num_24 : sem_number_in_80b2 [.fz (.str (sI ((24 : Nat) : Int)))] = some (.ok (.val (.int ((24 : Nat) : Int))), [.fz (.str (sI ((24 : Nat) : Int)))]) := by kernel_rfl
theorem num_25 : sem_number_in_80b2 [.fz (.str (sI ((25 : Nat) : Int)))] = some (.ok (.val (.int ((25 : Nat) : Int))), [.fz (.str (sI ((25 : Nat) : Int)))]) := by kernel_rfl
theorem num_26 : sem_number_in_80b2 [.fz (.str (sI ((26 : Nat) : Int)))] = some (.ok (.val (.int ((26 : Nat) : Int))), [.fz (.str (sI ((26 : Nat) : Int)))]) := by kernel_rfl
theorem num_27 : sem_number_in_80b2 [.fz (.str (sI ((27 : Nat) : Int)))] = some (.ok (.val (.int ((27 : Nat) : Int))), [.fz (.str (sI ((27 : Nat) : Int)))]) := by kernel_rfl
theorem num_28 : sem_number_in_80b2 [.fz (.str (sI ((28 : Nat) : Int)))] = some (.ok (.val (.int ((28 : Nat) : Int))), [.fz (.str (sI ((28 : Nat) : Int)))]) := by kernel_rfl
theorem num_29 : sem_number_in_80b2 [.fz (.str (sI ((29 : Nat) : Int)))] = some (.ok (.val (.int ((29 : Nat) : Int))), [.fz (.str (sI ((29 : Nat) : Int)))]) := by kernel_rfl
theorem num_30 : sem_number_in_80b2 [.fz (.str (sI ((30 : Nat) : Int)))] = some (.ok (.val (.int ((30 : Nat) : Int))), [.fz (.str (sI ((30 : Nat) : Int)))]) := by kernel_rfl
theorem num_31 : sem_number_in_80b2 [.fz (.str (sI ((31 : Nat) : Int)))] = some (.ok (.val (.int ((31 : Nat) : Int))), [.fz (.str (sI ((31 : Nat) : Int)))]) := by kernel_rfl
theorem num_32 : sem_number_in_80b2 [.fz (.str (sI ((32 : Nat) : Int)))] = some (.ok (.val (.int ((32 : Nat) : Int))), [.fz (.str (sI ((32 : Nat) : Int)))]) := by kernel_rfl
theorem num_33 : sem_number_in_80b2 [.fz (.str (sI ((33 : Nat) : Int)))] = some (.ok (.val (.int ((33 : Nat) : Int))), [.fz (.str (sI ((33 : Nat) : Int)))]) := by kernel_rfl
theorem num_34 : sem_number_in_80b2 [.fz (.str (sI ((34 : Nat) : Int)))] = some (.ok (.val (.int ((34 : Nat) : Int))), [.fz (.str (sI ((34 : Nat) : Int)))]) := by kernel_rfl
theorem num_35 : sem_number_in_80b2 [.fz (.str (sI ((35 : Nat) : Int)))] = some (.ok (.val (.int ((35 : Nat) : Int))), [.fz (.str (sI ((35 : Nat) : Int)))]) := by kernel_rfl
theorem num_36 : sem_number_in_80b2 [.fz (.str (sI ((36 : Nat) : Int)))] = some (.ok (.val (.int ((36 : Nat) : Int))), [.fz (.str (sI ((36 : Nat) : Int)))]) := by kernel_rfl
theorem num_37 : sem_number_in_80b2 [.fz (.str (sI ((37 : Nat) : Int)))] = some (.ok (.val (.int ((37 : Nat) : Int))), [.fz (.str (sI ((37 : Nat) : Int)))]) := by kernel_rfl
theorem num_38 : sem_number_in_80b2 [.fz (.str (sI ((38 : Nat) : Int)))] = some (.ok (.val (.int ((38 : Nat) : Int))), [.fz (.str (sI ((38 : Nat) : Int)))]) := by kernel_rfl
theorem num_39 : sem_number_in_80b2 [.fz (.str (sI ((39 : Nat) : Int)))] = some (.ok (.val (.int ((39 : Nat) : Int))), [.fz (.str (sI ((39 : Nat) : Int)))]) := by kernel_rfl
theorem num_40 : sem_number_in_80b2 [.fz (.str (sI ((40 : Nat) : Int)))] = some (.ok (.val (.int ((40 : Nat) : Int))), [.fz (.str (sI ((40 : Nat) : Int)))]) := by kernel_rfl
theorem num_41 : sem_number_in_80b2 [.fz (.str (sI ((41 : Nat) : Int)))] = some (.ok (.val (.int ((41 : Nat) : Int))), [.fz (.str (sI ((41 : Nat) : Int)))]) := by kernel_rfl
theorem num_42 : sem_number_in_80b2 [.fz (.str (sI ((42 : Nat) : Int)))] = some (.ok (.val (.int ((42 : Nat) : Int))), [.fz (.str (sI ((42 : Nat) : Int)))]) := by kernel_rfl
theorem num_43 : sem_number_in_80b2 [.fz (.str (sI ((43 : Nat) : Int)))] = some (.ok (.val (.int ((43 : Nat) : Int))), [.fz (.str (sI ((43 : Nat) : Int)))]) := by kernel_rfl
theorem num_44 : sem_number_in_80b2 [.fz (.str (sI ((44 : Nat) : Int)))] = some (.ok (.val (.int ((44 : Nat) : Int))), [.fz (.str (sI ((44 : Nat) : Int)))]) := by kernel_rfl
theorem num_45 : sem_number_in_80b2 [.fz (.str (sI ((45 : Nat) : Int)))] = some (.ok (.val (.int ((45 : Nat) : Int))), [.fz (.str (sI ((45 : Nat) : Int)))]) := by kernel_rfl
theorem num_46 : sem_number_in_80b2 [.fz (.str (sI ((46 : Nat) : Int)))] = some (.ok (.val (.int ((46 : Nat) : Int))), [.fz (.str (sI ((46 : Nat) : Int)))]) := by kernel_rfl
theorem num_47 : sem_number_in_80b2 [.fz (.str (sI ((47 : Nat) : Int)))] = some (.ok (.val (.int ((47 : Nat) : Int))), [.fz (.str (sI ((47 : Nat) : Int)))]) := by kernel_rfl
theorem num_48 : sem_number_in_80b2 [.fz (.str (sI ((48 : Nat) : Int)))] = some (.ok (.val (.int ((48 : Nat) : Int))), [.fz (.str (sI ((48 : Nat) : Int)))]) := by kernel_rfl
theorem num_49 : sem_number_in_80b2 [.fz (.str (sI ((49 : Nat) : Int)))] = some (.ok (.val (.int ((49 : Nat) : Int))), [.fz (.str (sI ((49 : Nat) : Int)))]) := by kernel_rfl
theorem number_in_ok : ∀ n : Nat, n < 50 → Oks sem_number_in_80b2 [.fz (.str (sI (n : Int)))] fun v ys => v = .ok (.val (.int (n : Int))) ∧ ys = [.fz (.str (sI (n : Int)))]
  | 0, _ => ⟨_, _, num_0, rfl, rfl⟩
  | 1, _ => ⟨_, _, num_1, rfl, rfl⟩
  | 2, _ => ⟨_, _, num_2, rfl, rfl⟩
  | 3, _ => ⟨_, _, num_3, rfl, rfl⟩
  | 4, _ => ⟨_, _, num_4, rfl, rfl⟩
  | 5, _ => ⟨_, _, num_5, rfl, rfl⟩
  | 6, _ => ⟨_, _, num_6, rfl, rfl⟩
  | 7, _ => ⟨_, _, num_7, rfl, rfl⟩
  | 8, _ => ⟨_, _, num_8, rfl, rfl⟩
  | 9, _ => ⟨_, _, num_9, rfl, rfl⟩
  | 10, _ => ⟨_, _, num_10, rfl, rfl⟩
  | 11, _ => ⟨_, _, num_11, rfl, rfl⟩
  | 12, _ => ⟨_, _, num_12, rfl, rfl⟩
  | 13, _ => ⟨_, _, num_13, rfl, rfl⟩
  | 14, _ => ⟨_, _, num_14, rfl, rfl⟩
  | 15, _ => ⟨_, _, num_15, rfl, rfl⟩
  | 16, _ => ⟨_, _, num_16, rfl, rfl⟩
  | 17, _ => ⟨_, _, num_17, rfl, rfl⟩
  | 18, _ => ⟨_, _, num_18, rfl, rfl⟩
  | 19, _ => ⟨_, _, num_19, rfl, rfl⟩
  | 20, _ => ⟨_, _, num_20, rfl, rfl⟩
  | 21, _ => ⟨_, _, num_21, rfl, rfl⟩
  | 22, _ => ⟨_, _, num_22, rfl, rfl⟩
  | 23, _ => ⟨_, _, num_23, rfl, rfl⟩
  | 24, _ => ⟨_, _, num_24, rfl, rfl⟩
  | 25, _ => ⟨_, _, num_25, rfl, rfl⟩
  | 26, _ => ⟨_, _, num_26, rfl, rfl⟩
  | 27, _ => ⟨_, _, num_27, rfl, rfl⟩
  | 28, _ => ⟨_, _, num_28, rfl, rfl⟩
  | 29, _ => ⟨_, _, num_29, rfl, rfl⟩
  | 30, _ => ⟨_, _, num_30, rfl, rfl⟩
  | 31, _ => ⟨_, _, num_31, rfl, rfl⟩
  | 32, _ => ⟨_, _, num_32, rfl, rfl⟩
  | 33, _ => ⟨_, _, num_33, rfl, rfl⟩
  | 34, _ => ⟨_, _, num_34, rfl, rfl⟩
  | 35, _ => ⟨_, _, num_35, rfl, rfl⟩
  | 36, _ => ⟨_, _, num_36, rfl, rfl⟩
  | 37, _ => ⟨_, _, num_37, rfl, rfl⟩
  | 38, _ => ⟨_, _, num_38, rfl, rfl⟩
  | 39, _ => ⟨_, _, num_39, rfl, rfl⟩
  | 40, _ => ⟨_, _, num_40, rfl, rfl⟩
  | 41, _ => ⟨_, _, num_41, rfl, rfl⟩
  | 42, _ => ⟨_, _, num_42, rfl, rfl⟩
  | 43, _ => ⟨_, _, num_43, rfl, rfl⟩
  | 44, _ => ⟨_, _, num_44, rfl, rfl⟩
  | 45, _ => ⟨_, _, num_45, rfl, rfl⟩
  | 46, _ => ⟨_, _, num_46, rfl, rfl⟩
  | 47, _ => ⟨_, _, num_47, rfl, rfl⟩
  | 48, _ => ⟨_, _, num_48, rfl, rfl⟩
  | 49, _ => ⟨_, _, num_49, rfl, rfl⟩
  | n + 50, h => absurd h (by omega)
def rdF (m : Int) (ts : List (Int × Int)) (rws : List (Ky × D)) (last : Int) : List (Str × Fl) := [("many", .d (.int m)), ("ties", .lst (ts.map tieD)), ("rows", .dK rws), ("last", .d (.int last))]
variable {m : Int} {ts : List (Int × Int)} {rws : List (Ky × D)} {last : Int}
theorem rd_many : List.lookup ("many" : Str) (rdF m ts rws last) = some (.d (.int m)) := by kernel_rfl
theorem rd_ties : List.lookup ("ties" : Str) (rdF m ts rws last) = some (.lst (ts.map tieD)) := by kernel_rfl
theorem rd_rows : List.lookup ("rows" : Str) (rdF m ts rws last) = some (.dK rws) := by kernel_rfl
theorem rd_last : List.lookup ("last" : Str) (rdF m ts rws last) = some (.d (.int last)) := by kernel_rfl
theorem rd_m1 : (List.lookup ("web" : Str) (rdF m ts rws last)).isNone = true := by kernel_rfl
theorem rd_m2 : (List.lookup ("takes" : Str) (rdF m ts rws last)).isNone = true := by kernel_rfl
theorem rd_m3 : (List.lookup ("takes_places" : Str) (rdF m ts rws last)).isNone = true := by kernel_rfl
theorem rd_m4 : (List.lookup ("takes_tie" : Str) (rdF m ts rws last)).isNone = true := by kernel_rfl
theorem rd_m5 : (List.lookup ("takes_at" : Str) (rdF m ts rws last)).isNone = true := by kernel_rfl
theorem rd_m6 : (List.lookup ("is_done" : Str) (rdF m ts rws last)).isNone = true := by kernel_rfl
theorem rd_m7 : (List.lookup ("floor" : Str) (rdF m ts rws last)).isNone = true := by kernel_rfl
theorem rd_pm {x : Int} : putFl "many" (.d (.int x)) (rdF m ts rws last) = rdF x ts rws last := by kernel_rfl
theorem rd_pl {x : Int} : putFl "last" (.d (.int x)) (rdF m ts rws last) = rdF m ts rws x := by kernel_rfl
theorem rd_pt {us : List (Int × Int)} {ds : List D} (h : ds = us.map tieD) : putFl "ties" (.lst ds) (rdF m ts rws last) = rdF m us rws last := by
  subst h
  kernel_rfl
theorem rd_pr {x : List (Ky × D)} : putFl "rows" (.dK x) (rdF m ts rws last) = rdF m ts x last := by kernel_rfl
theorem rd_len : (rdF m ts rws last).length = 4 := rfl
theorem rd_init : Oks sem_Reader___init___5752 [.ow (.obj "Reader" [])] fun v ys => v = .ok (.val .none) ∧ ys = [.ow (.obj "Reader" (rdF 0 [] [] (-1)))] := ⟨_, _, (by kernel_rfl : sem_Reader___init___5752 [.ow (.obj "Reader" [])] = some (.ok (.val .none), [.ow (.obj "Reader" (rdF 0 [] [] (-1)))])), rfl, rfl⟩
theorem rd_web (hl : ts.length ≤ 1000) : Oks sem_Reader_web_9457 [.ow (.obj "Reader" (rdF m ts rws last))] fun v ys => v = .ok (.val (webD m ts)) ∧ ys = [.ow (.obj "Reader" (rdF m ts rws last))] := by
  have gt2 : ∀ x y : D, gTup [.fz x, .fz y] = some (.val (.tuple [x, y])) := fun _ _ => rfl
  refine oks_def rfl ?_
  simp [-getElem?_pos, -getElem?_neg, List.getElem?_cons_zero, List.getElem?_cons_succ, b_Reader_web_9457, rd_many, rd_ties, gt2, webD]
theorem rd_places (hm : 1 ≤ m ∧ m ≤ 25) : Oks sem_Reader_takes_places_9bde [.ow (.obj "Reader" (rdF 0 [] [] (-1))), .ow (.lst [.int m])] fun v ys => v = .ok (.val (.bool true)) ∧ ys = [.ow (.obj "Reader" (rdF m [] [] (-1))), .ow (.lst [.int m])] := by
  have h1 : 1 ≤ m := hm.1
  have h2 : m ≤ 25 := hm.2
  have ix : ixP [PyData.int m] 0 = some (.int m) := rfl
  refine oks_def rfl ?_
  simp [-getElem?_pos, -getElem?_neg, List.getElem?_cons_zero, List.getElem?_cons_succ, b_Reader_takes_places_9bde, rd_many, rd_pm, rd_len, h1, h2, ix]
theorem rd_tie {a b : Int} (hl : ts.length < 24) (ha : a < m) (hb : b < m) : Oks sem_Reader_takes_tie_7da9 [.ow (.obj "Reader" (rdF m ts [] (-1))), .ow (.lst [.int a, .int b])] fun v ys => v = .ok (.val (.bool true)) ∧ ys = [.ow (.obj "Reader" (rdF m (ts ++ [(a, b)]) [] (-1))), .ow (.lst [.int a, .int b])] := by
  have lb : (lineD : Nat) = 16777216 := rfl
  have i0 : ixP [PyData.int a, .int b] 0 = some (.int a) := rfl
  have i1 : ixP [PyData.int a, .int b] 1 = some (.int b) := rfl
  have gt2 : ∀ x y : D, gTup [.fz x, .fz y] = some (.val (.tuple [x, y])) := fun _ _ => rfl
  have n24 : ¬ ts.length = 24 := by omega
  have n24' : ¬ (ts.length : Int) = 24 := by omega
  have gm : gMaxL [.ow (.lst [.int a, .int b])] = some (.val (.int (if b > a then b else a))) := by
    have e : [PyData.int a, .int b] = [a, b].map PyData.int := rfl
    rw [e, List.map_cons, gMaxL_o, ← List.map_cons, mmOk_ints, W.maxD_ints]
    show some (RV.val (.int (max a b))) = _
    congr 3
    rw [Int.max_def]
    split <;> split <;> omega
  have ap : gAppend (ts.map tieD) [.tuple [.int a, .int b]] = some ((ts ++ [(a, b)]).map tieD, .none) := by
    show (if (ts.map tieD).length < lineD then some (ts.map tieD ++ [PyData.tuple [.int a, .int b]], PyData.none) else none) = _
    rw [if_pos (by rw [List.length_map]; omega), List.map_append]
    rfl
  have mx : ¬ (if b > a then b else a) ≥ m := by split <;> omega
  have mx' : (if b > a then b else a) < m := by split <;> omega
  have pt := rd_pt (m := m) (ts := ts) (us := ts ++ [(a, b)]) (rws := []) (last := -1) (ds := (ts ++ [(a, b)]).map tieD) rfl
  generalize (if b > a then b else a) = M at *
  refine oks_def rfl ?_
  simp [-getElem?_pos, -getElem?_neg, List.getElem?_cons_zero, List.getElem?_cons_succ, b_Reader_takes_tie_7da9, rd_many, rd_last, rd_ties, rd_len, n24, n24', i0, i1, gm, gt2, ap, mx, mx', pt, -List.map_append]
  done
end
end Lw
end

section
namespace Lw
open PySem DL
section
variable {m : Int} {ts : List (Int × Int)} {rows : List (List Int)} {tie : Nat}
end
end Lw
end

section
namespace Lw
open PySem DL
section
variable {m1 m2 : Int} {ts1 ts2 : List (Int × Int)} {rows1 rows2 : List (List Int)} {p its : Nat}
end

end Lw
end

section
namespace Lw
open PySem DL
section
variable {m : Int} {ts : List (Int × Int)} {rows : List (List Int)} {tie : Nat}
theorem gAdd_tt {xs ys : List D} : gAdd [.fz (.tuple xs), .fz (.tuple ys)] = if xs.length + ys.length ≤ lineD then some (.val (.tuple (xs ++ ys))) else none := rfl
/-- the tie leads from the lesser place to the greater one, or back -/
structure Dr (ts : List (Int × Int)) (tie low high : Nat) (e e' : Int) : Prop where
  t : ∃ t, ts[tie]? = some t ∧ ((t = ((low : Int), (high : Int)) ∧ e = 2 * tie ∧ e' = 2 * tie + 1) ∨ (t = ((high : Int), (low : Int)) ∧ e = 2 * tie + 1 ∧ e' = 2 * tie))
  lt : low < high
theorem Dr.lens {low high : Nat} {e e' : Int} (d : Dr ts tie low high e e') (hts : TiesOk m ts) : tie < ts.length ∧ (high : Int) < m := by
  obtain ⟨⟨t, h, h2⟩, hlt⟩ := d
  have h1 := (List.getElem?_eq_some_iff.mp h).1
  obtain ⟨a, b⟩ := hts t (List.mem_of_getElem? h)
  rcases h2 with ⟨rfl, _, _⟩ | ⟨rfl, _, _⟩ <;> exact ⟨h1, by simp at a b; omega⟩
end
end Lw
end

section
namespace Lw
open PySem DL
section
variable {m : Int} {ts : List (Int × Int)} {rows : List (List Int)} {rws : List (Ky × D)} {last : Int}
def rwK (rows : List (List Int)) (k : Nat) : List (Ky × D) := ((List.range k).filter fun q => rows.getD q [] != []).map fun q : Nat => ((.inl (q : Int) : Ky), tupZ (rows.getD q []))
theorem rwK_succ (k : Nat) : rwK rows (k + 1) = if rows.getD k [] = [] then rwK rows k else rwK rows k ++ [(.inl (k : Int), tupZ (rows.getD k []))] := by
  unfold rwK
  rw [List.range_succ, List.filter_append, List.map_append]
  by_cases h : rows.getD k [] = []
  · rw [if_pos h]
    simp [-List.getD_eq_getElem?_getD, h]
  · rw [if_neg h]
    simp [-List.getD_eq_getElem?_getD, h]
theorem rwK_any {k q : Nat} : ((rwK rows k).any fun kv => decide (kv.1 = (.inl (q : Int) : Ky))) = true ↔ q < k ∧ rows.getD q [] ≠ [] := by
  unfold rwK
  rw [List.any_eq_true]
  constructor
  · rintro ⟨x, hx, e⟩
    obtain ⟨y, hy, rfl⟩ := List.mem_map.mp hx
    obtain ⟨h1, h2⟩ := List.mem_filter.mp hy
    have e : (.inl (y : Int) : Ky) = .inl (q : Int) := of_decide_eq_true e
    have : y = q := by
      have := Sum.inl.inj e
      omega
    subst this
    exact ⟨List.mem_range.mp h1, by simpa [-List.getD_eq_getElem?_getD] using h2⟩
  · rintro ⟨h1, h2⟩
    exact ⟨_, List.mem_map.mpr ⟨q, List.mem_filter.mpr ⟨List.mem_range.mpr h1, by simpa [-List.getD_eq_getElem?_getD] using h2⟩, rfl⟩, decide_eq_true rfl⟩
theorem rwK_len (k : Nat) : (rwK rows k).length ≤ k := by
  unfold rwK
  rw [List.length_map]
  have := List.length_filter_le (fun q => rows.getD q [] != []) (List.range k)
  rwa [List.length_range] at this
theorem rwK_put (k : Nat) : putD (rwK rows k) (.inl (k : Int)) (tupZ (rows.getD k [])) = rwK rows k ++ [(.inl (k : Int), tupZ (rows.getD k []))] := by
  unfold putD
  rw [if_neg fun h => by have := (rwK_any.mp h).1; omega]
theorem valD_snoc {kvs : List (Ky × D)} {k k' : Ky} {d : D} : valD (kvs ++ [(k, d)]) k' = match valD kvs k' with
    | some x => some x
    | none => if k = k' then some d else none := by
  unfold valD
  rw [List.find?_append]
  cases kvs.find? (fun kv => decide (kv.1 = k')) with
  | some x => rfl
  | none =>
    by_cases h : k = k'
    · simp [h]
    · simp [h]
theorem rwK_val {q : Nat} : ∀ k, valD (rwK rows k) (.inl (q : Int)) = if q < k ∧ rows.getD q [] ≠ [] then some (tupZ (rows.getD q [])) else none
  | 0 => by
    rw [if_neg (by omega)]
    rfl
  | k + 1 => by
    rw [rwK_succ]
    by_cases h : rows.getD k [] = []
    · rw [if_pos h, rwK_val k]
      by_cases hq : q < k ∧ rows.getD q [] ≠ []
      · rw [if_pos hq, if_pos ⟨by omega, hq.2⟩]
      · rw [if_neg hq, if_neg]
        rintro ⟨h1, h2⟩
        by_cases e : q = k
        · subst e; exact h2 h
        · exact hq ⟨by omega, h2⟩
    · rw [if_neg h, valD_snoc, rwK_val k]
      by_cases hq : q < k ∧ rows.getD q [] ≠ []
      · have E : (if q < k + 1 ∧ rows.getD q [] ≠ [] then some (tupZ (rows.getD q [])) else none) = some (tupZ (rows.getD q [])) := if_pos ⟨by omega, hq.2⟩
        rw [if_pos hq, E]
      · rw [if_neg hq]
        by_cases e : q = k
        · subst e
          have E : (if q < q + 1 ∧ rows.getD q [] ≠ [] then some (tupZ (rows.getD q [])) else none) = some (tupZ (rows.getD q [])) := if_pos ⟨by omega, h⟩
          rw [E]
          exact if_pos rfl
        · have E : (if q < k + 1 ∧ rows.getD q [] ≠ [] then some (tupZ (rows.getD q [])) else none) = none := if_neg fun z => hq ⟨by omega, z.2⟩
          rw [E]
          exact if_neg fun z => e (by have := Sum.inl.inj z; omega)
set_option maxHeartbeats 4000000 in
theorem rd_at {k : Nat} (ho : OrdN m ts (2 * ts.length) rows) (hm : 1 ≤ m ∧ m ≤ 25) (hl : ts.length ≤ 24) (hk : (k : Int) < m) (hr : rows.getD k [] ≠ []) (hlast : last < (k : Int)) :
    Oks sem_Reader_takes_at_5118 [.ow (.obj "Reader" (rdF m ts (rwK rows k) last)), .ow (.lst (((k : Int) :: rows.getD k []).map .int))] fun v ys => v = .ok (.val (.bool true)) ∧ ys = [.ow (.obj "Reader" (rdF m ts (rwK rows (k + 1)) (k : Int))), .ow (.lst (((k : Int) :: rows.getD k []).map .int))] := by
  have lb : (lineD : Nat) = 16777216 := rfl
  have rl := ho.len
  have g : rows[k]? = some (rows.getD k []) := by
    rw [List.getD_eq_getElem?_getD, List.getElem?_eq_getElem (by omega)]
    rfl
  have R := ho.row k _ g
  have rs := row_sorted R
  obtain ⟨_, _, e1, rfl, rfl⟩ := rd_web (m := m) (ts := ts) (rws := rwK rows k) (last := last) (by omega)
  obtain ⟨_, _, e2, rfl, rfl⟩ := ends_at_ok (m := m) (p := (k : Int)) (ts := ts) (by omega)
  rw [endsD_I] at e2
  have hsucc := rwK_succ (rows := rows) k
  rw [if_neg hr] at hsucc
  have hput := rwK_put (rows := rows) k
  have hlen := rwK_len (rows := rows) k
  have hrl := R.len
  have hd := R.hd
  generalize hrow : rows.getD k [] = row at *
  have cut : cutD (((k : Int) :: row).map PyData.int) (some 1) none = row.map .int := cutD_drop (n := 1)
  have ix : ixP (((k : Int) :: row).map PyData.int) 0 = some (.int (k : Int)) := ixP_nat (k := 0) rfl
  cases row with
  | nil => exact absurd rfl hr
  | cons h tl =>
    have ix0 : ixP ((h :: tl).map PyData.int) 0 = some (.int h) := ixP_nat (k := 0) rfl
    have so : srtOk ((h :: tl).map PyData.int) = true := srtOk_ints _
    have gs : gSort [.ow (.lst ((h :: tl).map .int))] = some (.new (.lst ((endsI ts (k : Int)).map .int))) := by
      rw [gSort_o, so, rs]
      rfl
    have ne : gNe [.ow (.lst ((endsI ts (k : Int)).map .int)), .ow (.lst ((endsI ts (k : Int)).map .int))] = some (.val (.bool false)) := by
      have := gNe_li (ns := endsI ts (k : Int)) (ms := endsI ts (k : Int))
      rw [decide_eq_true rfl] at this
      exact this
    have ne2 : gNe [.fz (.list ((endsI ts (k : Int)).map .int)), .fz (.list ((endsI ts (k : Int)).map .int))] = some (.val (.bool false)) := ne
    have gm : gMinL [.ow (.lst ((h :: tl).map .int))] = some (.val (.int h)) := by
      rw [List.map_cons, gMinL_o, ← List.map_cons, mmOk_ints, W.minD_ints]
      show some (RV.val (.int (tl.foldl min h))) = _
      rw [foldl_min tl h h List.mem_cons_self fun y hy => by
        rcases List.mem_cons.mp hy with rfl | hy
        · exact Int.le_refl _
        · have := hd h tl rfl y hy
          omega]
    have gt : gTuple [.ow (.lst ((h :: tl).map .int))] = some (.val (tupZ (h :: tl))) := rfl
    have l2 : ¬ ((((k : Int) :: h :: tl).map PyData.int).length : Int) < 2 := by simp; omega
    have pr := rd_pr (m := m) (ts := ts) (rws := rwK rows k) (last := last) (x := rwK rows (k + 1))
    rw [hsucc, ← hput] at pr
    rw [hput, ← hsucc] at pr
    have lt : (rwK rows k).length < lineD := by omega
    have p1 : putD (rwK rows k) (.inl (k : Int)) (tupZ (h :: tl)) = rwK rows (k + 1) := by rw [hput, hsucc]
    generalize hN : ((k : Int) :: h :: tl).map PyData.int = N at *
    generalize hE : (h :: tl).map PyData.int = Es at *
    refine oks_def rfl ?_
    simp [-getElem?_pos, -getElem?_neg, List.getElem?_cons_zero, List.getElem?_cons_succ, b_Reader_takes_at_5118, rd_many, rd_last, rd_rows, rd_len, rd_m1, e1, e2, hlast, hk, ix, ix0, cut, gs, ne, ne2, gm, gt, l2, lt, p1, pr, rd_pl]
    done
end
end Lw
end

section
namespace Lw
open PySem DL
section
variable {m : Int} {ts : List (Int × Int)} {rows : List (List Int)} {rws : List (Ky × D)} {last : Int}
def doneF : D → D := fun _ => .bool true
def getF (rows : List (List Int)) : D → D
  | .int q => tupZ (rows.getD q.toNat [])
  | d => d
set_option maxHeartbeats 4000000 in
theorem rd_done (ho : OrdN m ts (2 * ts.length) rows) (hm : 1 ≤ m ∧ m ≤ 25) (hl : ts.length ≤ 24) :
    Oks sem_Reader_is_done_a1c1 [.ow (.obj "Reader" (rdF m ts (rwK rows m.toNat) last))] fun v ys => v = .ok (.val (.bool true)) ∧ ys = [.ow (.obj "Reader" (rdF m ts (rwK rows m.toNat) last))] := by
  have lb : (lineD : Nat) = 16777216 := rfl
  have o1 : -4611686018427387904 ≤ m := by omega
  have o2 : m < 4611686018427387904 := by omega
  have gl0 : gLst [] = some (.new (.lst [])) := rfl
  have ge0 : gEq [.ow (.lst []), .ow (.lst [])] = some (.val (.bool true)) := rfl
  have ge1 : gEq [.fz (.list []), .fz (.list [])] = some (.val (.bool true)) := rfl
  obtain ⟨_, _, e1, rfl, rfl⟩ := rd_web (m := m) (ts := ts) (rws := rwK rows m.toNat) (last := last) (by omega)
  refine oks_def rfl ?_
  simp [-getElem?_pos, -getElem?_neg, List.getElem?_cons_zero, List.getElem?_cons_succ, b_Reader_is_done_a1c1, rd_many, o1, o2, anyPin]
  refine lcK_map doneF (fun d hd => ?_) (by rw [rng0_len]; omega) ?_
  · obtain ⟨q, rfl, hq⟩ := rng0_mem hd
    have hv := rwK_val (rows := rows) (q := q) m.toNat
    have g : rows[q]? = some (rows.getD q []) := by
      have := ho.len
      rw [List.getD_eq_getElem?_getD, List.getElem?_eq_getElem (by omega)]
      rfl
    by_cases hr : rows.getD q [] = []
    · rw [if_neg fun z => z.2 hr] at hv
      obtain ⟨_, _, e2, rfl, rfl⟩ := ends_at_ok (m := m) (p := (q : Int)) (ts := ts) (by omega)
      have hp := (row_perm (ho.row q _ g)).length_eq
      rw [hr] at hp
      have hE : endsD ts (q : Int) = [] := by
        rw [endsD_I, List.eq_nil_of_length_eq_zero hp.symm]
        rfl
      rw [hE] at e2
      simp [-getElem?_pos, -getElem?_neg, -List.getD_eq_getElem?_getD, List.getElem?_cons_zero, List.getElem?_cons_succ, rd_rows, rd_m1, hv, e1, e2, gl0, ge0, ge1, doneF]
    · rw [if_pos ⟨by omega, hr⟩] at hv
      simp [-getElem?_pos, -getElem?_neg, -List.getD_eq_getElem?_getD, List.getElem?_cons_zero, List.getElem?_cons_succ, rd_rows, hv, doneF]
  · have hA : gAll [.fz (.list ((rng 0 m).map doneF))] = some (.val (.bool true)) := by
      exact gAll_t
    simp [-getElem?_pos, -getElem?_neg, List.getElem?_cons_zero, List.getElem?_cons_succ, -List.map_map, hA]
    done
set_option maxHeartbeats 4000000 in
theorem rd_floor (ho : OrdN m ts (2 * ts.length) rows) (hm : 1 ≤ m ∧ m ≤ 25) (hl : ts.length ≤ 24) :
    Oks sem_Reader_floor_fb3f [.ow (.obj "Reader" (rdF m ts (rwK rows m.toNat) last))] fun v ys => v = .ok (.val (.tuple [webD m ts, orderD rows])) ∧ ys = [.ow (.obj "Reader" (rdF m ts (rwK rows m.toNat) last))] := by
  have lb : (lineD : Nat) = 16777216 := rfl
  have o1 : -4611686018427387904 ≤ m := by omega
  have o2 : m < 4611686018427387904 := by omega
  have gt0 : gTup [] = some (.val (.tuple ([] : List D))) := rfl
  have gt2 : ∀ x y : D, gTup [.fz x, .fz y] = some (.val (.tuple [x, y])) := fun _ _ => rfl
  obtain ⟨_, _, e1, rfl, rfl⟩ := rd_web (m := m) (ts := ts) (rws := rwK rows m.toNat) (last := last) (by omega)
  refine oks_def rfl ?_
  simp [-getElem?_pos, -getElem?_neg, List.getElem?_cons_zero, List.getElem?_cons_succ, b_Reader_floor_fb3f, rd_many, rd_m1, e1, o1, o2, anyPin]
  refine lcK_map (getF rows) (fun d hd => ?_) (by rw [rng0_len]; omega) ?_
  · obtain ⟨q, rfl, hq⟩ := rng0_mem hd
    have hv := rwK_val (rows := rows) (q := q) m.toNat
    have eg : getF rows (.int (q : Int)) = tupZ (rows.getD q []) := rfl
    rw [eg]
    by_cases hr : rows.getD q [] = []
    · rw [if_neg fun z => z.2 hr] at hv
      rw [hr]
      simp [-getElem?_pos, -getElem?_neg, -List.getD_eq_getElem?_getD, List.getElem?_cons_zero, List.getElem?_cons_succ, rd_rows, gt0, hv, tupZ]
    · rw [if_pos ⟨by omega, hr⟩] at hv
      simp [-getElem?_pos, -getElem?_neg, -List.getD_eq_getElem?_getD, List.getElem?_cons_zero, List.getElem?_cons_succ, rd_rows, gt0, hv]
  · have hm2 : (rng 0 m).map (getF rows) = rows.map fun row => .tuple (row.map .int) := by
      have := ho.len
      refine List.ext_getElem? fun q => ?_
      by_cases hq : q < m.toNat
      · rw [List.getElem?_map, List.getElem?_map, List.getElem?_eq_getElem (by omega : q < rows.length)]
        have : (rng 0 m)[q]? = some (.int (q : Int)) := by
          unfold rng
          rw [List.getElem?_map, List.getElem?_range (by omega)]
          show some (PyData.int (0 + (q : Int))) = _
          rw [Int.zero_add]
        rw [this]
        show some (tupZ (rows.getD q [])) = _
        rw [List.getD_eq_getElem?_getD, List.getElem?_eq_getElem (by omega : q < rows.length)]
        rfl
      · rw [List.getElem?_eq_none (by rw [List.length_map, rng0_len]; omega), List.getElem?_eq_none (by rw [List.length_map]; omega)]
    rw [hm2]
    simp [-getElem?_pos, -getElem?_neg, List.getElem?_cons_zero, List.getElem?_cons_succ, -List.map_map, gt2, orderD]
    done
end
end Lw
end

section
namespace Lw
open PySem DL
theorem allOkE_ints {row : List Int} : (row.map PyData.int).all okE = true := by
  rw [List.all_eq_true]
  intro d hd
  obtain ⟨x, _, rfl⟩ := List.mem_map.mp hd
  rfl
theorem lay_ints : ∀ row : List Int, PyData.canLayAll0 (row.map PyData.int) = true ∧ PyData.depthAll (row.map PyData.int) ≤ 1
  | [] => ⟨rfl, by simp [PyData.depthAll]⟩
  | x :: xs => by
    have := lay_ints xs
    refine ⟨by simp [PyData.canLayAll0, PyData.canLay0, this.1], ?_⟩
    have h2 := this.2
    simp [PyData.depthAll, PyData.depth]
    omega
end Lw
end

section
namespace Lw
open PySem DL
section
variable {m : Int} {ts : List (Int × Int)} {rows : List (List Int)} {rws : List (Ky × D)} {last : Int}
def numF : D → D
  | .str x => .int ((intText? x).getD 0)
  | d => d
theorem int_of_sI : ∀ n : Nat, n < 50 → intText? (sI (n : Int)) = some (n : Int) := by
  decide +kernel
theorem numF_sI {n : Int} (h : 0 ≤ n ∧ n < 50) : numF (.str (sI n)) = .int n := by
  obtain ⟨n, rfl⟩ := Int.eq_ofNat_of_zero_le h.1
  show PyData.int ((intText? (sI (n : Int))).getD 0) = _
  rw [int_of_sI n (by omega)]
  rfl
/-- what the methods tell of such a row -/
inductive Tk : Str → List Int → List (Str × Fl) → List (Str × Fl) → Prop
  | places {nums : List Int} {o o' : List (Str × Fl)} : sem_Reader_takes_places_9bde [.ow (.obj "Reader" o), .ow (.lst (nums.map .int))] = some (.ok (.val (.bool true)), [.ow (.obj "Reader" o'), .ow (.lst (nums.map .int))]) → Tk (Str.ofString "places") nums o o'
  | tie {nums : List Int} {o o' : List (Str × Fl)} : sem_Reader_takes_tie_7da9 [.ow (.obj "Reader" o), .ow (.lst (nums.map .int))] = some (.ok (.val (.bool true)), [.ow (.obj "Reader" o'), .ow (.lst (nums.map .int))]) → Tk (Str.ofString "tie") nums o o'
  | atk {nums : List Int} {o o' : List (Str × Fl)} : sem_Reader_takes_at_5118 [.ow (.obj "Reader" o), .ow (.lst (nums.map .int))] = some (.ok (.val (.bool true)), [.ow (.obj "Reader" o'), .ow (.lst (nums.map .int))]) → Tk (Str.ofString "at") nums o o'
theorem eqv_kw : gEq [.fz (.str (Str.ofString "places")), .fz (.str (Str.ofString "places"))] = some (.val (.bool true)) ∧ gEq [.fz (.str (Str.ofString "tie")), .fz (.str (Str.ofString "places"))] = some (.val (.bool false)) ∧ gEq [.fz (.str (Str.ofString "tie")), .fz (.str (Str.ofString "tie"))] = some (.val (.bool true)) ∧
    gEq [.fz (.str (Str.ofString "at")), .fz (.str (Str.ofString "places"))] = some (.val (.bool false)) ∧ gEq [.fz (.str (Str.ofString "at")), .fz (.str (Str.ofString "tie"))] = some (.val (.bool false)) ∧ gEq [.fz (.str (Str.ofString "at")), .fz (.str (Str.ofString "at"))] = some (.val (.bool true)) :=
  ⟨gEq_st (by decide +kernel) (by decide +kernel) (by decide +kernel), gEq_st (by decide +kernel) (by decide +kernel) (by decide +kernel), gEq_st (by decide +kernel) (by decide +kernel) (by decide +kernel), gEq_st (by decide +kernel) (by decide +kernel) (by decide +kernel), gEq_st (by decide +kernel) (by decide +kernel) (by decide +kernel), gEq_st (by decide +kernel) (by decide +kernel) (by decide +kernel)⟩
theorem no_none (nums : List Int) : gInS false [.fz .none, .ow (.lst (nums.map .int))] = some (.val (.bool false)) := by
  show (if okE .none && (nums.map PyData.int).all okE then some (RV.val (.bool (false ^^ (nums.map PyData.int).any fun y => PyData.eqv y .none))) else none) = _
  rw [allOkE_ints]
  have : ((nums.map PyData.int).any fun y => PyData.eqv y .none) = false := by
    rw [List.any_eq_false]
    intro y hy
    obtain ⟨z, _, rfl⟩ := List.mem_map.mp hy
    exact Bool.false_ne_true
  rw [this]
  rfl
set_option maxHeartbeats 8000000 in
theorem rd_takes {kw : Str} {nums : List Int} {m' last' : Int} {ts' : List (Int × Int)} {rws' : List (Ky × D)} (h : Tk kw nums (rdF m ts rws last) (rdF m' ts' rws' last')) (hn : ∀ n ∈ nums, 0 ≤ n ∧ n < 50) (hl : nums.length ≤ 1000) (hx : (lineW (kw :: nums.map sI)).length ≤ 1000) :
    Oks sem_Reader_takes_c2ed [.ow (.obj "Reader" (rdF m ts rws last)), .fz (.str (lineW (kw :: nums.map sI)))] fun v ys => v = .ok (.val (.bool true)) ∧ ys = [.ow (.obj "Reader" (rdF m' ts' rws' last')), .fz (.str (lineW (kw :: nums.map sI)))] := by
  have lb : (lineD : Nat) = 16777216 := rfl
  have hp : Plain1 kw := by
    cases h
    · exact kw_plain.1
    · exact kw_plain.2.1
    · exact kw_plain.2.2
  have sp := line_split (ws := kw :: nums.map sI) (by simp) (fun w hw => by
    rcases List.mem_cons.mp hw with rfl | hw
    · exact hp
    · obtain ⟨n, _, rfl⟩ := List.mem_map.mp hw
      exact sI_plain n)
  have s0 : ((Str.ofString " ").length == 0) = false := by decide +kernel
  have lx : (lineW (kw :: nums.map sI)).length + 2 ≤ lineD := by omega
  have dr : ((kw :: nums.map sI).map PyData.str).drop 1 = (nums.map sI).map PyData.str := by
    rw [List.map_cons]
    rfl
  have ix : ixP ((kw :: nums.map sI).map PyData.str) 0 = some (.str kw) := ixP_nat (k := 0) rfl
  have nn := no_none nums
  obtain ⟨k1, k2, k3, k4, k5, k6⟩ := eqv_kw
  have nm : ((nums.map sI).map PyData.str).map numF = nums.map .int := by
    rw [List.map_map, List.map_map]
    exact List.map_congr_left fun n hm => numF_sI (hn n hm)
  have cl : cutD ((kw :: nums.map sI).map PyData.str) (some 1) none = (nums.map sI).map PyData.str := by rw [cutD_drop1, dr]
  obtain ⟨X, hX⟩ : ∃ X, X = lineW (kw :: nums.map sI) := ⟨_, rfl⟩
  rw [← hX] at sp lx ⊢
  obtain ⟨Ws, hWs⟩ : ∃ Ws, Ws = (kw :: nums.map sI).map PyData.str := ⟨_, rfl⟩
  rw [← hWs] at ix cl
  have sp2 : (Txt.split X (Str.ofString " ")).map PyData.str = Ws := by rw [sp, hWs]
  obtain ⟨Ms, hMs⟩ : ∃ Ms, Ms = (nums.map sI).map PyData.str := ⟨_, rfl⟩
  rw [← hMs] at cl nm
  have hMl : Ms.length ≤ lineD := by rw [hMs, List.length_map, List.length_map]; omega
  refine oks_def rfl ?_
  simp [-getElem?_pos, -getElem?_neg, List.getElem?_cons_zero, List.getElem?_cons_succ, b_Reader_takes_c2ed, s0, lx, sp2, -cutD_drop1, cl, anyPin]
  refine lcK_map numF (fun d hd => ?_) hMl ?_
  · rw [hMs] at hd
    obtain ⟨x, hx, rfl⟩ := List.mem_map.mp hd
    obtain ⟨n, hm, rfl⟩ := List.mem_map.mp hx
    have := hn n hm
    obtain ⟨n, rfl⟩ := Int.eq_ofNat_of_zero_le this.1
    obtain ⟨_, _, e1, rfl, rfl⟩ := number_in_ok n (by omega)
    rw [numF_sI this]
    simp [-getElem?_pos, -getElem?_neg, List.getElem?_cons_zero, List.getElem?_cons_succ, e1]
  rw [nm]
  generalize hN : nums.map PyData.int = N at *
  cases h with
  | places e =>
    rw [hN] at e
    simp [-getElem?_pos, -getElem?_neg, List.getElem?_cons_zero, List.getElem?_cons_succ, nn, ix, k1, rd_m3, e]
  | tie e =>
    rw [hN] at e
    simp [-getElem?_pos, -getElem?_neg, List.getElem?_cons_zero, List.getElem?_cons_succ, nn, ix, k2, k3, rd_m4, e]
  | atk e =>
    rw [hN] at e
    simp [-getElem?_pos, -getElem?_neg, List.getElem?_cons_zero, List.getElem?_cons_succ, nn, ix, k4, k5, k6, rd_m5, e]
end
end Lw
end

section
namespace Lw
open PySem DL
section
variable {m : Int} {ts : List (Int × Int)} {rows : List (List Int)}
def strG : D → D
  | .int e => .str (Str.ofString " " ++ sI e)
  | d => d
structure FlT (m : Int) (ts : List (Int × Int)) (rows : List (List Int)) : Prop where
  m1 : 1 ≤ m ∧ m ≤ 25
  tl : ts.length ≤ 24
  tk : TiesOk m ts
  rl : rows.length = m.toNat
  rw : ∀ q, ∀ e ∈ rows.getD q [], SmI e
  rn : ∀ q, (rows.getD q []).length ≤ 50
theorem flt_of (hm : 1 ≤ m ∧ m ≤ 25) (hl : ts.length ≤ 24) (ht : TiesOk m ts) (ho : OrdN m ts (2 * ts.length) rows) : FlT m ts rows := by
  have p12 : (10 : Nat) ^ 12 = 1000000000000 := by decide
  refine ⟨hm, hl, ht, ho.len, fun q e he => ?_, fun q => ?_⟩
  · cases hq : rows[q]? with
    | none => rw [List.getD_eq_getElem?_getD, hq] at he; cases he
    | some row =>
      rw [List.getD_eq_getElem?_getD, hq] at he
      have := ((ho.row q row hq).mem e).mp he
      unfold SmI
      omega
  · cases hq : rows[q]? with
    | none => rw [List.getD_eq_getElem?_getD, hq]; simp
    | some row =>
      rw [List.getD_eq_getElem?_getD, hq]
      have := (ho.row q row hq).len
      show row.length ≤ 50
      omega
theorem sm_of {i : Int} (h : 0 ≤ i ∧ i < 1000) : SmI i := by
  have p12 : (10 : Nat) ^ 12 = 1000000000000 := by decide
  unfold SmI
  omega
def WnI (m : Int) (ts : List (Int × Int)) (rows : List (List Int)) (k : Nat) (r : Ro) : Prop := ∃ x4 x5, r = [.frz false (webD m ts), .frz false (orderD rows), .own false (.lst ((lnP m :: (ts.take k).map lnT).map .str)), .non, x4, x5, .non] ∧ Fr x4 ∧ Fr x5
def WnJ (m : Int) (ts : List (Int × Int)) (rows : List (List Int)) (k : Nat) (r : Ro) : Prop := ∃ x3 x4 x5, r = [.frz false (webD m ts), .frz false (orderD rows), .own false (.lst ((lnP m :: ts.map lnT ++ lnsA rows k).map .str)), x3, x4, x5, .non] ∧ Fr x3 ∧ Fr x4 ∧ Fr x5
def txtV (m : Int) (ts : List (Int × Int)) (rows : List (List Int)) : Str := Str.join (Str.ofString "\n") (lns m ts rows)
theorem lnsA_len (k : Nat) : (lnsA rows k).length ≤ k := by
  unfold lnsA
  rw [List.length_map]
  have := List.length_filter_le (fun q => rows.getD q [] != []) (List.range k)
  rwa [List.length_range] at this
theorem lns_ok (hf : FlT m ts rows) : (∀ x ∈ lns m ts rows, Txt1 x) ∧ (lns m ts rows).length ≤ 50 := by
  have hm := hf.m1
  constructor
  · intro x hx
    rcases List.mem_append.mp hx with hx | hx
    · rcases List.mem_cons.mp hx with rfl | hx
      · exact lnP_ok (sm_of (by omega))
      · obtain ⟨t, ht, rfl⟩ := List.mem_map.mp hx
        have := hf.tk t ht
        exact lnT_ok (sm_of (by omega)) (sm_of (by omega))
    · unfold lnsA at hx
      obtain ⟨q, hq, rfl⟩ := List.mem_map.mp hx
      have := List.mem_range.mp (List.mem_filter.mp hq).1
      exact lnA_ok (sm_of (by omega)) (hf.rw q) (hf.rn q)
  · have := lnsA_len (rows := rows) m.toNat
    have := hf.tl
    unfold lns
    rw [List.length_append, List.length_cons, List.length_map]
    omega
theorem join_fits (s : String) {l : List Str} (h : ∀ x ∈ l, x.length ≤ 1000) (hn : l.length ≤ 60) (hs : s.length ≤ 10) : (l.map (·.length)).sum + l.length * (Str.ofString s).length ≤ lineD := by
  have lb : (lineD : Nat) = 16777216 := rfl
  have h1 := sum_le h
  have h2 := sl s hs
  have h3 : l.length * (Str.ofString s).length ≤ l.length * 10 := Nat.mul_le_mul_left _ h2
  omega
theorem ord_get (hf : FlT m ts rows) {k : Nat} (hk : (k : Int) < m) : gIx [.fz (orderD rows), .fz (.int (k : Int))] = some (.val (tupZ (rows.getD k []))) := by
  have := hf.rl
  unfold orderD
  rw [gIx_t, ixP_nat (k := k) (d := tupZ (rows.getD k [])) (by rw [List.getElem?_map, List.getD_eq_getElem?_getD, List.getElem?_eq_getElem (by omega)]; rfl)]
  rfl
theorem add_fits {a b : Str} (ha : a.length ≤ 2000) (hb : b.length ≤ 2000) : gAddS [.fz (.str a), .fz (.str b)] = some (.val (.str (a ++ b))) := gAddS_s (by
  have lb : (lineD : Nat) = 16777216 := rfl
  omega)
theorem tie_line {t : Int × Int} (h1 : SmI t.1) (h2 : SmI t.2) : ∃ T1 T2 : Str, gAddS [.fz (.str (Str.ofString "tie ")), .fz (.str (sI t.1))] = some (.val (.str T1)) ∧ gAddS [.fz (.str T1), .fz (.str (Str.ofString " "))] = some (.val (.str T2)) ∧ gAddS [.fz (.str T2), .fz (.str (sI t.2))] = some (.val (.str (lnT t))) := by
  have := sI_len h1; have := sI_len h2
  have a1 := sl "tie " (n := 4) (by decide); have a2 := sl " " (n := 1) (by decide)
  refine ⟨Str.ofString "tie " ++ sI t.1, Str.ofString "tie " ++ sI t.1 ++ Str.ofString " ", add_fits (by omega) (by omega), add_fits (by rw [app_len]; omega) (by omega), add_fits (by rw [app_len, app_len]; omega) (by omega)⟩
set_option maxHeartbeats 4000000 in
theorem Ltext_ok (hf : FlT m ts rows) : Oks sem_Ltext_bb53 [.fz (webD m ts), .fz (orderD rows)] fun v ys => v = .ok (.val (.str (txtV m ts rows))) ∧ ys = [.fz (webD m ts), .fz (orderD rows)] := by
  have lb : (lineD : Nat) = 16777216 := rfl
  have hm := hf.m1
  have hl := hf.tl
  have sm := sI_ok (sm_of (i := m) (by omega))
  have ap : gAddS [.fz (.str (Str.ofString "places ")), .fz (.str (sI m))] = some (.val (.str (lnP m))) := add_fits (sl _ (by decide)) (by have := sI_len (sm_of (i := m) (by omega)); omega)
  have g1 : ∀ a : D, gLst [.fz a] = some (.new (.lst [a])) := fun _ => rfl
  have g2 : ∀ a b : D, gLst [.fz a, .fz b] = some (.new (.lst [a, b])) := fun _ _ => rfl
  have k0 : (-4611686018427387904 : Int) ≤ m := by omega
  have k1 : m < (4611686018427387904 : Int) := by omega
  have gt0 : gTup [] = some (.val (.tuple ([] : List D))) := rfl
  refine oks_def rfl ?_
  simp [-getElem?_pos, -List.getD_eq_getElem?_getD, -getElem?_neg, List.getElem?_cons_zero, List.getElem?_cons_succ, b_Ltext_bb53, web_0, web_1, sm, ap, g1]
  refine forS_inv (WnI m ts rows) (ts.map tieD) 0 _ ?_ (fun k d r hd h => ?_) (fun r h => ?_)
  · exact ⟨.non, .non, rfl, .non, .non⟩
  · rw [Nat.zero_add] at h ⊢
    obtain ⟨x4, x5, rfl, h4, h5⟩ := h
    rw [List.getElem?_map] at hd
    obtain ⟨t, htk, rfl⟩ := Option.map_eq_some_iff.mp hd
    have htm := hf.tk t (List.mem_of_getElem? htk)
    have s1 := sm_of (i := t.1) (by omega)
    have s2 := sm_of (i := t.2) (by omega)
    have i1 := sI_ok s1
    have i2 := sI_ok s2
    obtain ⟨T1, T2, q1, q2, q3⟩ := tie_line s1 s2
    have lt : (lnP m :: (ts.take k).map lnT).length < lineD := by simp; omega
    have tk : (lnP m :: (ts.take (k + 1)).map lnT).map PyData.str = (lnP m :: (ts.take k).map lnT).map PyData.str ++ [.str (lnT t)] := by
      rw [List.take_add_one, htk]
      simp
    obtain ⟨Ls, hLs⟩ : ∃ Ls, Ls = (lnP m :: (ts.take k).map lnT).map PyData.str := ⟨_, rfl⟩
    have lt2 : Ls.length < lineD := by rw [hLs, List.length_map]; exact lt
    rw [← hLs] at tk ⊢
    simp [-getElem?_pos, -List.getD_eq_getElem?_getD, -getElem?_neg, List.getElem?_cons_zero, List.getElem?_cons_succ, tieD, h4.pin, h5.pin, i1, i2, q1, q2, q3, lt2]
    exact ⟨_, _, by rw [tk], .frz, .frz⟩
  · rw [Nat.zero_add, List.length_map] at h
    obtain ⟨x4, x5, rfl, h4, h5⟩ := h
    rw [List.take_length]
    obtain ⟨L0, hL0⟩ : ∃ L0, L0 = (lnP m :: ts.map lnT).map PyData.str := ⟨_, rfl⟩
    rw [← hL0]
    simp [-getElem?_pos, -List.getD_eq_getElem?_getD, -getElem?_neg, List.getElem?_cons_zero, List.getElem?_cons_succ, web_0, k0, k1]
    refine forS_inv (WnJ m ts rows) (rng 0 m) 0 _ ?_ (fun k d r hd h => ?_) (fun r h => ?_)
    · exact ⟨.non, x4, x5, by rw [hL0]; simp [lnsA], .non, h4, h5⟩
    · obtain ⟨rfl, hk⟩ := rng0_get hd
      rw [Nat.zero_add] at h ⊢
      obtain ⟨x3, x4, x5, rfl, h3, h4, h5⟩ := h
      have og := ord_get hf hk
      have gn : gLen [.fz (tupZ (rows.getD k []))] = some (.val (.int ((rows.getD k []).length : Int))) := by unfold tupZ; simp
      have hs := lnsA_succ rows k
      have sk := sm_of (i := (k : Int)) (by omega)
      have ik := sI_ok sk
      have hll := lnsA_len (rows := rows) k
      obtain ⟨Ls, hLs⟩ : ∃ Ls, Ls = (lnP m :: ts.map lnT ++ lnsA rows k).map PyData.str := ⟨_, rfl⟩
      have lt2 : Ls.length < lineD := by rw [hLs, List.length_map, List.length_append, List.length_cons, List.length_map]; omega
      rw [← hLs]
      by_cases hr : rows.getD k [] = []
      · have hz : ((rows.getD k []).length : Int) = 0 := by rw [hr]; rfl
        rw [hz] at gn
        rw [if_pos hr] at hs
        simp [-getElem?_pos, -List.getD_eq_getElem?_getD, -getElem?_neg, List.getElem?_cons_zero, List.getElem?_cons_succ, h3.pin, og, gn]
        exact ⟨_, x4, x5, by rw [hs, hLs], .frz, h4, h5⟩
      · have hz : 0 < (rows.getD k []).length := List.length_pos_iff.mpr hr
        rw [if_neg hr] at hs
        have rr := hf.rw k
        have rn := hf.rn k
        obtain ⟨row, hrow⟩ : ∃ row, row = rows.getD k [] := ⟨_, rfl⟩
        rw [← hrow] at og gn rr rn hs hz
        have ro : rowOf (tupZ row) = some (row.map .int) := rfl
        have a1 : gAddS [.fz (.str (Str.ofString "at ")), .fz (.str (sI k))] = some (.val (.str (Str.ofString "at " ++ sI k))) := add_fits (sl _ (by decide)) (by have := sI_len sk; omega)
        obtain ⟨A1, hA1⟩ : ∃ A1, A1 = Str.ofString "at " ++ sI k := ⟨_, rfl⟩
        rw [← hA1] at a1
        simp [-getElem?_pos, -List.getD_eq_getElem?_getD, -getElem?_neg, List.getElem?_cons_zero, List.getElem?_cons_succ, h3.pin, og, gn, hz, ik, a1, ro, anyPin]
        refine lcK_map strG (fun d hd => ?_) ?_ ?_
        · obtain ⟨e, he, rfl⟩ := List.mem_map.mp hd
          have ie := sI_ok (rr e he)
          have ae : gAddS [.fz (.str (Str.ofString " ")), .fz (.str (sI e))] = some (.val (.str (Str.ofString " " ++ sI e))) := add_fits (sl _ (by decide)) (by have := sI_len (rr e he); omega)
          simp [-getElem?_pos, -List.getD_eq_getElem?_getD, -getElem?_neg, List.getElem?_cons_zero, List.getElem?_cons_succ, ie, ae, strG]
        · rw [List.length_map]; omega
        · have em : (row.map PyData.int).map strG = (row.map fun e => Str.ofString " " ++ sI e).map PyData.str := by rw [List.map_map, List.map_map]; rfl
          rw [em]
          have wl : ∀ x ∈ row.map (fun e => Str.ofString " " ++ sI e), x.length ≤ 14 := fun x hx => by
            obtain ⟨e, he, rfl⟩ := List.mem_map.mp hx
            rw [app_len]
            have := sI_len (rr e he)
            have := sl " " (n := 1) (by decide)
            omega
          have gj : gJoin (Str.ofString "") [.fz (.list ((row.map fun e => Str.ofString " " ++ sI e).map PyData.str))] = some (.val (.str (Str.join (Str.ofString "") (row.map fun e => Str.ofString " " ++ sI e)))) := gJoin_l (join_fits "" (fun x hx => by have := wl x hx; omega) (by simp; omega) (by decide))
          have jl : (Str.join (Str.ofString "") (row.map fun e => Str.ofString " " ++ sI e)).length ≤ 1000 := by
            have h1 := StrLaws.join_length_le (Str.ofString "") (row.map fun e => Str.ofString " " ++ sI e)
            have h2 := sum_le wl
            have h3 : (Str.ofString "").length = 0 := by rw [ofString_length]; rfl
            rw [h3] at h1
            rw [List.length_map] at h2
            omega
          have al : A1.length ≤ 20 := by
            rw [hA1, app_len]
            have := sI_len sk
            have := sl "at " (n := 3) (by decide)
            omega
          have gj2 : gAddS [.fz (.str A1), .fz (.str (Str.join (Str.ofString "") (row.map fun e => Str.ofString " " ++ sI e)))] = some (.val (.str (lnA k row))) := by
            rw [add_fits (by omega) (by omega), hA1, lnA_eq]
          obtain ⟨J, hJ⟩ : ∃ J, J = Str.join (Str.ofString "") (row.map fun e => Str.ofString " " ++ sI e) := ⟨_, rfl⟩
          obtain ⟨M1, hM1⟩ : ∃ M1, M1 = (row.map fun e => Str.ofString " " ++ sI e).map PyData.str := ⟨_, rfl⟩
          rw [← hJ] at gj gj2
          rw [← hM1] at gj ⊢
          simp [-getElem?_pos, -List.getD_eq_getElem?_getD, -getElem?_neg, List.getElem?_cons_zero, List.getElem?_cons_succ, gj, gj2, lt2]
          exact ⟨.frz false (.int (k : Int)), x4, x5, by rw [hs, hLs]; simp, .frz, h4, h5⟩
    · rw [Nat.zero_add, rng0_len] at h
      obtain ⟨x3, x4, x5, rfl, h3, h4, h5⟩ := h
      obtain ⟨l1, l2⟩ := lns_ok hf
      have gj : gJoin (Str.ofString "\n") [.ow (.lst ((lns m ts rows).map .str))] = some (.val (.str (txtV m ts rows))) := gJoin_o (join_fits "\n" (fun x hx => (l1 x hx).len) (by omega) (by decide))
      have el : lnP m :: ts.map lnT ++ lnsA rows m.toNat = lns m ts rows := rfl
      rw [el]
      obtain ⟨M2, hM2⟩ : ∃ M2, M2 = (lns m ts rows).map PyData.str := ⟨_, rfl⟩
      rw [← hM2] at gj ⊢
      simp [-getElem?_pos, -List.getD_eq_getElem?_getD, -getElem?_neg, List.getElem?_cons_zero, List.getElem?_cons_succ, gj]
end
end Lw
end

section
namespace Lw
open PySem DL
section
variable {m : Int} {ts : List (Int × Int)} {rows : List (List Int)}
theorem join_len (sep : Str) : ∀ l : List Str, (Str.join sep l).length ≤ (l.map (·.length)).sum + l.length * sep.length
  | [] => Nat.zero_le _
  | [x] => by
    show x.length ≤ _
    simp
  | x :: y :: l => by
    have ih := join_len sep (y :: l)
    show (x ++ sep ++ Str.join sep (y :: l)).length ≤ _
    rw [app_len, app_len, List.map_cons, List.sum_cons, List.length_cons, Nat.succ_mul]
    omega
theorem lnsA_pre (p : Nat) : ∀ d : Nat, ∃ T, lnsA rows (p + d) = lnsA rows p ++ T
  | 0 => ⟨[], by simp⟩
  | d + 1 => by
    obtain ⟨T, h⟩ := lnsA_pre p d
    rw [← Nat.add_assoc, lnsA_succ]
    by_cases hr : rows.getD (p + d) [] = []
    · rw [if_pos hr]; exact ⟨T, h⟩
    · rw [if_neg hr, h]; exact ⟨T ++ [lnA (p + d : Nat) (rows.getD (p + d) [])], by rw [List.append_assoc]⟩
theorem rwK_pre (p : Nat) : ∀ d : Nat, ∃ T, rwK rows (p + d) = rwK rows p ++ T
  | 0 => ⟨[], by simp⟩
  | d + 1 => by
    obtain ⟨T, h⟩ := rwK_pre p d
    rw [← Nat.add_assoc, rwK_succ]
    by_cases hr : rows.getD (p + d) [] = []
    · rw [if_pos hr]; exact ⟨T, h⟩
    · rw [if_neg hr, h]; exact ⟨_, by rw [List.append_assoc]⟩
theorem rwK_lnsA (p : Nat) : (rwK rows p).length = (lnsA rows p).length := by
  unfold rwK lnsA
  rw [List.length_map, List.length_map]
/-- the next row with ends -/
theorem next_row {M : Nat} : ∀ (d p : Nat), p + d = M → (lnsA rows p).length < (lnsA rows M).length → ∃ q, p ≤ q ∧ q < M ∧ rows.getD q [] ≠ [] ∧ lnsA rows q = lnsA rows p ∧ rwK rows q = rwK rows p ∧ (lnsA rows M)[(lnsA rows p).length]? = some (lnA (q : Nat) (rows.getD q []))
  | 0, p, e, h => by
    have : p = M := by omega
    subst this
    omega
  | d + 1, p, e, h => by
    by_cases hr : rows.getD p [] = []
    · have e1 := lnsA_succ rows p
      have e2 := rwK_succ (rows := rows) p
      rw [if_pos hr] at e1 e2
      obtain ⟨q, h1, h2, h3, h4, h5, h6⟩ := next_row (M := M) d (p + 1) (by omega) (by rw [e1]; exact h)
      rw [e1] at h4 h6
      rw [e2] at h5
      exact ⟨q, by omega, h2, h3, h4, h5, h6⟩
    · refine ⟨p, Nat.le_refl _, by omega, hr, rfl, rfl, ?_⟩
      obtain ⟨T, hT⟩ := lnsA_pre (rows := rows) (p + 1) d
      rw [show p + 1 + d = M by omega] at hT
      rw [hT, lnsA_succ, if_neg hr, List.append_assoc, List.getElem?_append_right (Nat.le_refl _), Nat.sub_self]
      rfl
/-- how far the reading is -/
inductive RS (m : Int) (ts : List (Int × Int)) (rows : List (List Int)) : Nat → Int → List (Int × Int) → List (Ky × D) → Int → Prop
  | a : RS m ts rows 0 0 [] [] (-1)
  | b (k : Nat) : k < ts.length → RS m ts rows (k + 1) m (ts.take k) [] (-1)
  | c (p : Nat) (last : Int) : p ≤ m.toNat → last < (p : Int) → RS m ts rows (1 + ts.length + (lnsA rows p).length) m ts (rwK rows p) last
theorem RS.b' {k : Nat} (hm : 1 ≤ m) (h : k ≤ ts.length) : RS m ts rows (k + 1) m (ts.take k) [] (-1) := by
  by_cases e : k < ts.length
  · exact .b k e
  · have e : k = ts.length := by omega
    have := RS.c (m := m) (ts := ts) (rows := rows) 0 (-1) (by omega) (by omega)
    rw [e, List.take_length]
    have z : lnsA rows 0 = [] := rfl
    have z2 : rwK rows 0 = [] := rfl
    rw [z, z2] at this
    rw [show ts.length + 1 = 1 + ts.length + ([] : List Str).length by simp; omega]
    exact this
theorem lns_get (m : Int) (ts : List (Int × Int)) (rows : List (List Int)) : (lns m ts rows)[0]? = some (lnP m) ∧ (∀ (k : Nat) t, ts[k]? = some t → (lns m ts rows)[k + 1]? = some (lnT t)) ∧ ∀ j, (lns m ts rows)[1 + ts.length + j]? = (lnsA rows m.toNat)[j]? := by
  refine ⟨rfl, fun k t h => ?_, fun j => ?_⟩
  · have hk := (List.getElem?_eq_some_iff.mp h).1
    show ((lnP m :: ts.map lnT) ++ lnsA rows m.toNat)[k + 1]? = _
    rw [List.getElem?_append_left (by rw [List.length_cons, List.length_map]; omega), List.getElem?_cons_succ, List.getElem?_map, h]
    rfl
  · show ((lnP m :: ts.map lnT) ++ lnsA rows m.toNat)[1 + ts.length + j]? = _
    rw [List.getElem?_append_right (by rw [List.length_cons, List.length_map]; omega), List.length_cons, List.length_map]
    congr 1
    omega
theorem RS.step (ho : OrdN m ts (2 * ts.length) rows) (ht : TiesOk m ts) (hm : 1 ≤ m ∧ m ≤ 25) (hl : ts.length ≤ 24) {i : Nat} {m1 l1 : Int} {t1 : List (Int × Int)} {r1 : List (Ky × D)} (h : RS m ts rows i m1 t1 r1 l1) (hi : i < (lns m ts rows).length) :
    ∃ kw nums m2 t2 r2 l2, (lns m ts rows)[i]? = some (lineW (kw :: nums.map sI)) ∧ Tk kw nums (rdF m1 t1 r1 l1) (rdF m2 t2 r2 l2) ∧ (∀ n ∈ nums, 0 ≤ n ∧ n < 50) ∧ nums.length ≤ 1000 ∧ RS m ts rows (i + 1) m2 t2 r2 l2 := by
  obtain ⟨g1, g2, g3⟩ := lns_get m ts rows
  cases h with
  | a =>
    obtain ⟨_, _, e, rfl, rfl⟩ := rd_places hm
    refine ⟨Str.ofString "places", [m], m, [], [], -1, ?_, .places e, fun n hn => ?_, by simp, ?_⟩
    · rw [g1, lnP_words]; rfl
    · cases List.mem_singleton.mp hn; omega
    · have := RS.b' (m := m) (ts := ts) (rows := rows) (k := 0) hm.1 (by omega)
      exact this
  | b k hk =>
    have gt : ts[k]? = some ts[k] := List.getElem?_eq_getElem hk
    generalize ts[k] = t at gt
    have hb := ht t (List.mem_of_getElem? gt)
    obtain ⟨_, _, e, rfl, rfl⟩ := rd_tie (m := m) (ts := ts.take k) (a := t.1) (b := t.2) (by rw [List.length_take]; omega) (by omega) (by omega)
    refine ⟨Str.ofString "tie", [t.1, t.2], m, ts.take k ++ [(t.1, t.2)], [], -1, ?_, .tie e, fun n hn => ?_, by simp, ?_⟩
    · rw [g2 k t gt, lnT_words]; rfl
    · rcases List.mem_cons.mp hn with rfl | hn
      · omega
      · cases List.mem_singleton.mp hn; omega
    · have := RS.b' (m := m) (ts := ts) (rows := rows) (k := k + 1) hm.1 (by omega)
      rw [List.take_add_one, gt] at this
      exact this
  | c p _ hp hlast =>
    have hlen : (lns m ts rows).length = 1 + ts.length + (lnsA rows m.toNat).length := by
      unfold lns
      rw [List.length_append, List.length_cons, List.length_map]
      omega
    obtain ⟨q, h1, h2, h3, h4, h5, h6⟩ := next_row (rows := rows) (M := m.toNat) (m.toNat - p) p (by omega) (by omega)
    have gq : rows[q]? = some (rows.getD q []) := by
      have := ho.len
      rw [List.getD_eq_getElem?_getD, List.getElem?_eq_getElem (by omega)]
      rfl
    have R := ho.row q _ gq
    obtain ⟨_, _, e, rfl, rfl⟩ := rd_at (k := q) (last := l1) ho hm hl (by omega) h3 (by omega)
    rw [h5] at e
    refine ⟨Str.ofString "at", (q : Int) :: rows.getD q [], m, ts, rwK rows (q + 1), (q : Int), ?_, .atk e, fun n hn => ?_, ?_, ?_⟩
    · rw [g3, h6]; rfl
    · rcases List.mem_cons.mp hn with rfl | hn
      · omega
      · have := (R.mem n).mp hn
        omega
    · have := R.len
      rw [List.length_cons]
      omega
    · have := RS.c (m := m) (ts := ts) (rows := rows) (q + 1) (q : Int) (by omega) (by omega)
      rw [lnsA_succ, if_neg h3, h4, List.length_append] at this
      exact this
theorem RS.fin {m1 l1 : Int} {t1 : List (Int × Int)} {r1 : List (Ky × D)} (hm : 1 ≤ m) (h : RS m ts rows (lns m ts rows).length m1 t1 r1 l1) : m1 = m ∧ t1 = ts ∧ r1 = rwK rows m.toNat := by
  have hlen : (lns m ts rows).length = 1 + ts.length + (lnsA rows m.toNat).length := by
    unfold lns
    rw [List.length_append, List.length_cons, List.length_map]
    omega
  generalize hL : (lns m ts rows).length = L at *
  cases h with
  | a => omega
  | b k hk => omega
  | c p _ hp hlast =>
    obtain ⟨T, hT⟩ := rwK_pre (rows := rows) p (m.toNat - p)
    rw [show p + (m.toNat - p) = m.toNat by omega] at hT
    have e1 := rwK_lnsA (rows := rows) p
    have e2 := rwK_lnsA (rows := rows) m.toNat
    have := congrArg List.length hT
    rw [List.length_append] at this
    have : T = [] := List.eq_nil_of_length_eq_zero (by omega)
    rw [this, List.append_nil] at hT
    exact ⟨rfl, rfl, hT.symm⟩
def RdI (T : Str) (m : Int) (ts : List (Int × Int)) (rows : List (List Int)) (k : Nat) (r : Ro) : Prop := ∃ m1 t1 r1 l1 x3, r = [.frz false (.str T), .own false (.obj "Reader" (rdF m1 t1 r1 l1)), .own false (.lst ((lns m ts rows).map .str)), x3] ∧ RS m ts rows k m1 t1 r1 l1 ∧ Fr x3
end
end Lw
end

section
set_option maxHeartbeats 2000000
namespace DL
open PySem PySem.Spec PySem.Calls PyProof.Rows L2
section
variable {X : Cx} {e : Expr} {es : List Expr} {ta : TA} {p1 p2 pos : Pos} {x : Str} {C' : Addr} {mc : Value}
/-- C'.__init__(self, ..), C' an own class under ValueError without an __init__ of its own -/
theorem pe_feinit {pl : PySem.Sem Bool} (hg : Gl X x) (hm : X.mg x = some (.ref C')) (rd : ClX.CRead X.K C' mc) (vV : PySem.W.findCls X.K (.ref C') mc "__init__" = some (.val (.builtin "ValueError.__init__"))) (ha : PA X (e :: es) ta)
    (hc : eval (.Call (.Attribute (.Name x p1) "__init__" p2) (e :: es) [] pos) X.env = (do
      let ov ← eval (.Name x p1) X.env
      standAt p2.atName
      let (f, first) ← holding [ov] (getMethod ov "__init__" pl)
      callWith pos f first (backTo pos (starEach (e :: es) X.env)) (backToKw pos (keywordEach [] X.env))) := by rfl)
    (hdb : (x == ("__debug__" : Str)) = false := by decide)
    (he : starEach (e :: es) X.env = (false, eval e X.env) :: starEach es X.env := by rfl) (hpl : (backTo pos (starEach es X.env)).any (·.1) = false := by rfl) :
    PE X (.Call (.Attribute (.Name x p1) "__init__" p2) (e :: es) [] pos) (tVeI X.K ta) := by
  refine ⟨fun pins s σ H Q I h => ?_⟩
  refine PySem.W.methodCall_KW (ld_glob I hg hm ?_ hdb) hc
  refine PySem.W.method_cls I.kIn rd.ga (PySem.W.cls_value I.kIn rd.rd vV (by decide +kernel) ?_)
  show wpAny _ _ (callWith pos (Value.builtin "ValueError.__init__") [] (backTo pos (starEach (e :: es) X.env)) []) _ _ _
  refine PyProof.Rows.callWith_method1 (thn (ha.run pos pins _ σ H _ (I.tok _) h) fun us s1 ⟨vs, H1, I1, r1, a, C, ws, ev, hl, T, ea, q⟩ => ?_) he hpl
  subst ev
  cases r1 with
  | @cons _ u0 _ ur ra rw' =>
    obtain rfl : u0 = Value.ref a := ra
    have hlen : ur.length ≤ sizeLine := by
      rw [← Paired.length rw', sizeLine_eq]
      omega
    exact oinit_ok T I1 ea hlen fun s' J => ⟨.non, H1, J, rfl, q⟩
end
/-- what such an __init__ does: the row is kept -/
def spRow (K : PySem.W.Frag) (C : Addr) : Sp := fun vs H Q E => ∃ (a : Addr) (n : Int), vs = [.ref a, .int n] ∧ OexC K C ∧ PySem.W.findIn K (.ref C) "row" = some none ∧ H a = some (exo a C none) ∧
  ∀ dx, H dx = none → dx ≠ a → Q .non (upd (upd H dx (exd dx [("row", .int n)])) a (exo a C (some dx)))
end DL
namespace DL
open PySem PySem.Spec PySem.Calls PyProof.Rows L2
section
variable {X : Cx} {W : WX}
/-- C(e, ..), C an own class of exceptions whose __init__ keeps sp -/
theorem pmk_row {CX : CXT} {x : Str} {e : Expr} {es : List Expr} {ta : TA} {p pos : Pos} {C fI : Addr} {k : Nat} {fd : FuncData} {ps : List Str} {sp : Sp} (T : OexC X.K C) (iC : PySem.W.findIn X.K (.ref C) "__init__" = some (some (.ref fI))) (tI : PySem.W.typeIn X.K (.ref fI) = some (.type "function"))
    (F : FnOk X.prog X.w X.K X.mg X.base CX k fI fd ps sp) (hr : Room (k + 1) X.A) (hb : Binds X.K fd ps []) (hx : Passes CX X (fun _ _ _ => False)) (hg : Gl X x) (hm : X.mg x = some (.ref C)) (ha : PA X (e :: es) ta)
    (hdb : (x == ("__debug__" : Str)) = false := by decide) (he : starEach (e :: es) X.env = (false, eval e X.env) :: starEach es X.env := by rfl) (hpl : (backTo pos (starEach es X.env)).any (·.1) = false := by rfl) :
    L2N.PMk X (.Call (.Name x p) (e :: es) [] pos) (tMkO C sp [] ta) := by
  intro pins s σ H Q I h
  obtain ⟨_, _, _, _, bm, _, _, _, _, _, _, _, _, _, _, hC, hbm⟩ := T.cls
  refine wpAny_Call_Name_kw (ld_glob I hg hm ?_ hdb)
  refine PySem.W.callWith_K (h₀ := X.base) I.ok.mod.kin T.kC (thn (ha.run pos pins s σ H _ I h) fun us s1 ⟨vs, H1, I1, r1, hz, q1⟩ => ⟨I1.kIn, ?_⟩) he hpl
  show wpAny _ _ (call (.ref C) us) _ _ _
  obtain ⟨hp, g, dr, tk, os⟩ := s1
  -- the new exception stands behind its arguments' tuple
  obtain ⟨a, ea⟩ : ∃ a, a = hp.objs.size + 1 := ⟨_, rfl⟩
  obtain ⟨h3, eh⟩ : ∃ h3, h3 = (hp.push (PySem.W.kdv_tup us)).push (PySem.HandSPX.excO C hp.objs.size) := ⟨_, rfl⟩
  have old : ∀ b o, hp.get? b = some o → h3.get? b = some o := fun b o z => by rw [eh]; exact Heap.get?_push_of_some _ (Heap.get?_push_of_some _ z)
  have there : h3.get? a = some (PySem.HandSPX.excO C hp.objs.size) := by rw [eh, ea]; heap_get
  have le : hp.objs.size ≤ a := by omega
  have I2 : Inv X pins σ (upd H1 a (exo a C none)) ⟨h3, g, dr, tk, os⟩ := I1.laid (t' := tk) (a := a) (o := exo a C none) (h' := h3) old le (exo_ok there)
  have q2 := q1 a (I1.hok.fresh le)
  rw [List.append_nil] at q2
  have r2 : Vals (V.ref a :: vs) (Value.ref a :: us) := .cons rfl r1
  have len : (Value.ref a :: us ++ []).length = ps.length := by
    have z := r2.length
    rw [F.len _ _ _ _ q2] at z
    rw [List.append_nil]
    exact z.symm
  have few : us.length ≤ sizeLine := by
    rw [← Paired.length r1, sizeLine_eq]
    omega
  have bnd := hb _ (Value.ref a :: us) I2.kIn len
  rw [List.append_nil] at bnd
  subst eh ea
  refine wpAny_call (PySem.HandSPX.call_own PySem.F.excBase_ValueError (fun Y => PySem.HandSPX.refsVE_contains Y bm hbm) (I1.kIn _ _ hC) (PySem.W.looks_findIn I1.kIn iC) (fun self => PySem.W.bind_fn I1.kIn self tI) few
    (codeAny_mono (F.run _ X.stack _ _ ⟨Value.ref _ :: us, []⟩ (Value.ref _ :: us) _ _ (fun _ _ _ => False) (hr.make C us []) (I2.env0.make C us []) bnd r2 q2) fun r s' hq => ?_))
  cases r with
  | error er => exact hx pins σ _ _ er s' I2 hq
  | ok fl =>
    cases fl with
    | ret u =>
      obtain ⟨v, H2, os2, bare2, un2, hok2, rv, ev, d, fs, e1, e2, e3, q3⟩ := hq
      subst ev
      obtain ⟨h2, g2, d2, t2, os'⟩ := s'
      obtain ⟨t0, G, J, kG, ge, hoe, na⟩ := mk_end0 (d2 := d2) (t2 := t2) I1 le old un2 hok2 os2 bare2 e1 e2 e3
      exact ⟨rv, hp.objs.size + 1, _, _, ⟨G, g2, d2, t2, os'⟩, _, .ref C, some d, rfl, J, kG, ge, hoe, ⟨rfl, rfl, fun vs hv => by cases hv; rfl⟩, rfl, rfl, na, rfl, bare2, raises_own T.exC T.tyC, q3⟩
    | next => exact False.elim hq
    | brk => exact False.elim hq
    | cont => exact False.elim hq
end
end DL
namespace DL
open PySem PySem.Spec PySem.Calls PyProof.Rows L2
/-- NoText.__init__(self, row): its class above is asked, the row is kept -/
theorem fn_row {CX : CXT} {P : Program} {w : World} {K : PySem.W.Frag} {mg : Str → Option Value} {base : Heap} {x qual fl text : Str} {st : Stmt} {f C C' : Addr} {mc : Value} {fd : FuncData} {k j : Nat} {p1 p2 p3 p4 p5 p6 p7 p8 p9 p10 : Pos}
    (F : Fun K x qual st f fd) (Sc : FnScope ["self", "row"] ["self", "row"] (defScope st))
    (hbd : defBody st = [.Expr (.Call (.Attribute (.Name fl p1) "__init__" p2) [.Name "self" p3, .Constant (.str text) j p4] [] p5) p6, .Assign [.Attribute (.Name "self" p7) "row" p8] (.Name "row" p9) p10])
    (h0 : Vis (defScope st) "self") (h1 : Vis (defScope st) "row")
    (hgl : ∀ (cdv : Value) (A : Around) (outer : List Env) (s : Shared) (H : Hp) (E : XK), Gl (cxOf CX P w K mg base ["self", "row"] qual (defScope st) f cdv A outer s H E) fl)
    (hm : mg fl = some (.ref C')) (rd : ClX.CRead K C' mc) (vV : PySem.W.findCls K (.ref C') mc "__init__" = some (.val (.builtin "ValueError.__init__"))) (hdb : (fl == ("__debug__" : Str)) = false)
    (hc : ∀ env : Env, ∃ pl : PySem.Sem Bool, eval (.Call (.Attribute (.Name fl p1) "__init__" p2) [.Name "self" p3, .Constant (.str text) j p4] [] p5) env = (do
      let ov ← eval (.Name fl p1) env
      standAt p2.atName
      let (f, first) ← holding [ov] (getMethod ov "__init__" pl)
      callWith p5 f first (backTo p5 (starEach [.Name "self" p3, .Constant (.str text) j p4] env)) (backToKw p5 (keywordEach [] env)))) :
    FnOk P w K mg base CX (k + 1) f fd ["self", "row"] (spRow K C) := by
  obtain ⟨oc, od, kV, doc, pm, an, cdv, ct, osl, rfl, lk, hcd⟩ := F.ex
  refine fn_of lk hcd Sc (fun vs H Q E h => ?_) fun A outer s H vs Q E hr h => ?_
  · obtain ⟨a, n, e, _⟩ := h
    rw [e]
    rfl
  · rw [hbd]
    obtain ⟨pl, hc'⟩ := hc (cxOf CX P w K mg base ["self", "row"] qual (defScope st) f cdv A outer s H E).env
    refine ⟨_, pss_cons (ps_expr (pe_feinit (hgl cdv A outer s H E) hm rd vV (pa_cons (pe_var (i := 0) rfl h0) (pa_cons pe_str pa_nil)) hc' (hdb := hdb))) (pss_cons (ps_ost (pe_var (i := 0) rfl h0) (pe_var (i := 1) rfl h1)) pss_nil), ?_⟩
    obtain ⟨a, n, rfl, T, hno, ha, q⟩ := h
    refine ⟨.ref a, rfl, ?_⟩
    refine ⟨a, C, [.str text], rfl, Nat.le_of_ble_eq_true rfl, T, ha, ?_⟩
    refine ⟨.int n, rfl, .ref a, rfl, a, C, rfl, T, hno, .inl ⟨ha, fun dx hd hne => ?_⟩⟩
    exact q dx hd hne
end DL
end

section
set_option maxHeartbeats 2000000
namespace DL
open PySem PySem.Spec PySem.Calls PyProof.Rows L2
section
variable {X : Cx} {W : WX}
/-- what is known of such a class -/
structure RowK (K : PySem.W.Frag) (C fI : Addr) : Prop where
  T : OexC K C
  iC : PySem.W.findIn K (.ref C) "__init__" = some (some (.ref fI))
  tI : PySem.W.typeIn K (.ref fI) = some (.type "function")
  row : PySem.W.findIn K (.ref C) "row" = some none
def noCX : CXT := fun _ _ _ _ _ _ => False
theorem row_end {H : Hp} {a dx C : Addr} {fs : List (Str × V)} (ha : H a = none) (hne : dx ≠ a) :
    upd (del (upd (upd (upd H a (exo a C none)) dx (exd dx fs)) a (exo a C (some dx))) a) dx (.xd fs) = upd H dx (.xd fs) := by
  funext b
  by_cases h : b = dx
  · rw [h, upd_same, upd_same]
  · rw [upd_ne h, upd_ne h]
    by_cases h2 : b = a
    · rw [h2]
      simp [del, ha]
    · rw [del_ne h2, upd_ne h2, upd_ne h, upd_ne h2]
theorem ds_raiseR {cls : String} {e : Expr} {m : M RV} {C fI : Addr} {k : Nat} {fd : FuncData} {ps : List Str} {p pos pos' : Pos} (hc : X.calm = true) (tk : L2N.Takes X W) (R : RowK X.K C fI) (F : FnOk X.prog X.w X.K X.mg X.base noCX k fI fd ps (spRow X.K C))
    (hr : Room (k + 1) X.A) (hb : Binds X.K fd ps []) (hg : Gl X (Str.ofString cls)) (hm : X.mg (Str.ofString cls) = some (.ref C)) (he : DE X W e m) (hdb : (Str.ofString cls == ("__debug__" : Str)) = false := by decide)
    (hs : starEach [e] X.env = (false, eval e X.env) :: starEach [] X.env := by rfl) (hpl : (backTo pos (starEach [] X.env)).any (·.1) = false := by rfl) :
    DS X W (.Raise (some (.Call (.Name (Str.ofString cls) p) [e] [] pos)) none pos') (sRaiseR cls m) :=
  ps_weak (L2N.ps_raise hc tk (pmk_row R.T R.iC R.tI F hr hb (fun _ _ _ _ _ _ _ h => h.elim) hg hm (pa_cons he pa_nil hs) hdb hs hpl)) fun D σ H ⟨B, r, O, c, o, r', e', p⟩ => by
    unfold sRaiseR at e'
    refine ⟨B, r, O, c, ?_⟩
    cases q : m r with
    | none => rw [q] at e'; cases e'
    | some z =>
      obtain ⟨o1, r1⟩ := z
      rw [q] at e'
      refine ⟨o1, r1, rfl, ?_⟩
      cases o1 with
      | exc x => cases e'; exact fun B' H' O' c' dx s c1 b rx => p B' H' O' σ c' dx s c1 b rx
      | ok rv =>
        cases rv with
        | new ct => cases e'
        | val d =>
          cases d with
          | int n =>
            cases e'
            intro B' H' O' y s c1 b rx
            cases dp_int (show Dq X.K B' y (.int n) from rx)
            refine ⟨Nat.le_of_ble_eq_true rfl, fun a ha => ⟨a, n, rfl, R.T, R.row, upd_same .., fun dx hd hne => ?_⟩⟩
            have hdx : H' dx = none := by rwa [upd_ne hne] at hd
            refine ⟨rfl, dx, _, upd_same .., by rw [upd_ne hne, upd_same], hdx, ?_⟩
            rw [row_end ha hne]
            obtain ⟨bD, nD, c2, s2⟩ := c1.lay (o := HO.xd [("row", .int n)]) hdx
            exact p B' (upd H' dx (.xd [("row", .int n)])) O' σ (.ref C) (some dx) (s.trans s2) c2 b ⟨C, hm, rfl, dx, rfl, upd_same .., Option.eq_none_iff_forall_ne_some.mpr (fun o z => s.live dx (by rw [z]; simp) hdx), bD, nD⟩
          | _ => cases e'
end
end DL
end

section
set_option maxHeartbeats 2000000
namespace DL
open PySem PySem.Spec PySem.Calls PyProof.Rows L2
section
variable {Y : Cx} {W : WX}
end
end DL
end

section
set_option maxHeartbeats 2000000
namespace DL
open PySem PySem.Spec PySem.Calls PyProof.Rows L2
section
variable {fs ex : List Addr} {H0 H : Hp} {hp h : Heap} {dd : Addr} {vs : List (Str × V)}
theorem un_delxd (un : Un fs ex H0 H hp h) (e : H dd = some (.xd vs)) : Un fs ex H0 (del H dd) hp h where
  keep := un.keep
  slot := un.slot
  free := fun b o z n hx => by
    by_cases q : b = dd
    · rw [q]; simp [del]
    · rw [del_ne q]; exact un.free b o z n hx
  there := un.there
  tups := fun b xs z => by
    have y := un.tups b xs z
    rw [del_ne (fun q => by rw [q, e] at y; cases y)]; exact y
  frzs := fun b o u z => by
    have y := un.frzs b o u z
    rw [del_ne (fun q => by rw [q, e] at y; cases y)]; exact y
  tbls := fun b ps z => by
    obtain ⟨m, y⟩ := un.tbls b ps z
    exact ⟨m, by rw [del_ne (fun q => by rw [q, e] at y; cases y)]; exact y⟩
theorem hok_delxd {P : Program} {w : World} (hok : HOk P w H h) (e : H dd = some (.xd vs)) : HOk P w (del H dd) h := fun b o z => by
  have hb : b ≠ dd := fun q => by rw [q] at z; simp [del] at z
  rw [del_ne hb] at z
  exact (hok b o z).stay (fun c v hc z => z) (fun c hc => by rw [del_ne (fun q => by rw [q, e] at hc; cases hc)]; exact hc) (fun c xs hc => by rw [del_ne (fun q => by rw [q, e] at hc; cases hc)]; exact hc)
end
/-- the dict of an exception goes from what is tracked to the pins -/
theorem inv_pinD {X : Cx} {pins pn : List (Addr × Obj)} {σ : L2.St} {H : Hp} {s : Shared} {dd : Addr} {vs : List (Str × V)} (I : Inv X (pn ++ pins) σ H s) (e : H dd = some (.xd vs)) :
    ∃ od : Obj, (∀ f, RelO (vs.lookup f) ((PySem.W.lookIn f od).join)) ∧ (∀ f, (PySem.W.lookIn f od).isSome = true) ∧ Inv X ((dd, od) :: (pn ++ pins)) σ (del H dd) s := by
  have hnf : dd ∉ X.fs := fun hb => by
    obtain ⟨_, o, ho, _⟩ := I.ok.funs.mem hb
    have z := I.base.free dd o ho (I.ok.frf dd hb) (fun y => I.ok.exfs dd y hb)
    rw [e] at z
    cases z
  have hx : ObjOk X.prog X.w H s.heap dd (.xd vs) := I.hok dd _ e
  obtain ⟨mA, hns, hr⟩ := hx
  obtain ⟨od, ho, hl⟩ := lookIn_ns hns
  obtain ⟨o2, es, ep, ho2, hd2, _⟩ := hns
  have eo : o2 = od := Option.some.inj (ho2.symm.trans ho)
  subst eo
  refine ⟨o2, fun f => by rw [hl]; exact hr f, fun f => by rw [hl]; rfl, I.ok, I.os, I.bare, un_delxd I.base e, I.loc, I.cell, ?_, fun x c z => ?_, fun p hp => ?_, hok_delxd I.hok e, I.len⟩
  · by_cases q : X.env.locals = dd
    · rw [q]; simp [del]
    · rw [del_ne q]; exact I.free
  · by_cases q : c = dd
    · rw [q]; simp [del]
    · rw [del_ne q]; exact I.freeC x c z
  · by_cases q : p = (dd, o2)
    · subst q
      exact ⟨ho, by simp [del], fun (z : dd = X.env.locals) => absurd (e.symm.trans (z ▸ I.free)) (fun y => by cases y), hnf, fun v (z : o2.data = .cell v) => by rw [hd2] at z; cases z⟩
    · have hp' : p ∈ X.pn ++ (pn ++ pins) := by
        rcases List.mem_append.mp hp with h | h
        · exact List.mem_append_left _ h
        · rcases List.mem_cons.mp h with h | h
          · exact absurd h q
          · exact List.mem_append_right _ h
      obtain ⟨h1, h2, h3⟩ := I.pin p hp'
      have hne : p.1 ≠ dd := fun z => by rw [z, e] at h2; cases h2
      exact ⟨h1, by rw [del_ne hne]; exact h2, h3⟩
end DL
end

section
set_option maxHeartbeats 2000000
namespace DL
open PySem PySem.Spec PySem.Calls PyProof.Rows L2
section
variable {Y : Cx} {W : WX}
/-- isinstance of an exception, it and its dict pinned -/
theorem call_isP {a D dd : Addr} {oe od : Obj} (hp : (a, oe) ∈ Y.pn) (hq : (dd, od) ∈ Y.pn) (C : ExcC Y.K D) (hz : L2N.Zn (.ref D) (some dd) oe) (hf : ∃ vs, oe.data = .fields vs) : CallR Y (.builtin "isinstance") (rIsE Y.K D a) := by
  intro pins s σ H xs us Q I r h
  obtain ⟨c, cv, b, rfl, hcv, e, q⟩ := h
  cases r with
  | cons rx rr =>
    cases rr with
    | cons rt rr =>
      cases rr
      cases rx
      have ec := hcv _ rt
      subst ec
      obtain ⟨hget, _⟩ := I.pin (a, oe) (List.mem_append.mpr (.inl hp))
      obtain ⟨hget2, _⟩ := I.pin (dd, od) (List.mem_append.mpr (.inl hq))
      obtain ⟨vs, hv⟩ := hf
      have J : PySem.W.InstAt s.heap a oe D (some od) := ⟨hget, hz.1, by unfold PySem.W.notCls; rw [hv] <;> rfl, by rw [hz.2.1]; exact hget2⟩
      exact PySem.W.kia_one (PySem.W.kitx_exc (by obtain ⟨cd, hc, _⟩ := PySem.W.any_some C.hd; rw [hc]; rfl) C.hg C.hk C.hs C.ha C.hn C.ht C.hm) I.kIn J e (fun z => nomatch z) fun tk => ⟨.bl b, H, I.kept (t' := tk) fun _ _ z => z, rfl, q⟩
theorem dex_isP {a D dd : Addr} {oe od : Obj} {i : Nat} {n T : Str} {c : V} {cv : Value} {b : Bool} {p p1 p2 pos : Pos} (hp : (a, oe) ∈ Y.pn) (hq : (dd, od) ∈ Y.pn) (C : ExcC Y.K D) (hz : L2N.Zn (.ref D) (some dd) oe) (hf : ∃ vs, oe.data = .fields vs)
    (hg : Gl Y "isinstance") (hm : Y.mg "isinstance" = none) (ho : PE Y (.Name n p1) (tVar i)) (hT : PE Y (.Name T p2) (tC c)) (hc : ClsV c cv) (hk : PySem.W.kitOne Y.K (.ref D) cv = some b)
    (h1 : starEach [.Name n p1, .Name T p2] Y.env = (false, eval (.Name n p1) Y.env) :: starEach [.Name T p2] Y.env := by rfl) (h2 : starEach [.Name T p2] Y.env = (false, eval (.Name T p2) Y.env) :: starEach [] Y.env := by rfl)
    (hpl : (backTo pos (starEach [.Name T p2] Y.env)).any (·.1) = false := by rfl) (hv : bootBuiltins "isinstance" = some (.builtin "isinstance") := by decide +kernel) :
    DEx Y W i a (.Call (.Name "isinstance" p) [.Name n p1, .Name T p2] [] pos) (mC (.bool b)) :=
  pe_weak (pe_callB (X := Y) (call_isP hp hq C hz hf) hg hm hv (pa_cons ho (pa_cons hT pa_nil h2) h1) (by decide) (by decide) h1 hpl) fun σ H Q ⟨hi, B, r, O, h⟩ =>
    ⟨.ref a, hi, c, cv, b, rfl, fun u hu => (hc.eq hu), hk, h.ret (Dq.bl b)⟩
/-- e.row, e an exception that is pinned with its dict -/
theorem pe_rowP {a D dd : Addr} {oe od : Obj} {e : Expr} {te : TE} {pos : Pos} {n : Str} {v : V} (hp : (a, oe) ∈ Y.pn) (hq : (dd, od) ∈ Y.pn) (T : XfC Y.K D) (hno : PySem.W.findIn Y.K (.ref D) n = some none)
    (hz : L2N.Zn (.ref D) (some dd) oe) (hf : ∃ vs, oe.data = .fields vs) (hv : RelO (some v) (PySem.W.lookIn n od).join) (he : PE Y e te) (hb : attributeBase e n Y.env (eval e Y.env) = eval e Y.env := by rfl) :
    PE Y (.Attribute e n pos) (fun σ H Q => te σ H fun x H1 => x = .ref a ∧ Q v H1) := by
  refine ⟨fun pins s σ H Q I h => ?_⟩
  refine attr_of hb (thn (he.run pins s σ H _ I h) fun u s1 hh => ?_)
  obtain ⟨x, H1, I1, rx, ex, q⟩ := hh
  subst ex
  obtain rfl : u = Value.ref a := rx
  obtain ⟨ha, _⟩ := I1.pin (a, oe) (List.mem_append_left _ hp)
  obtain ⟨ha2, _⟩ := I1.pin (dd, od) (List.mem_append_left _ hq)
  obtain ⟨vs, hd⟩ := hf
  have hl : ∃ u, PySem.W.lookIn n od = some (some u) ∧ RelV v u := by
    cases q : PySem.W.lookIn n od with
    | none => rw [q] at hv; exact hv.elim
    | some o =>
      cases o with
      | none => rw [q] at hv; exact hv.elim
      | some u => rw [q] at hv; exact ⟨u, rfl, hv⟩
  obtain ⟨u, hu, ru⟩ := hl
  have J : PySem.W.InstAt s1.heap a oe D (some od) := ⟨ha, hz.1, by unfold PySem.W.notCls; rw [hd] <;> rfl, by rw [hz.2.1]; exact ha2⟩
  exact HandSPX.exc_get I1.kIn J T.ga T.gg T.exC (PySem.W.findObj_own T.hdC hno rfl hu) (handed_of ru) ⟨v, H1, I1.tok _, ru, q⟩
/-- in the suite's slot i -/
theorem dex_row {a D dd : Addr} {oe od : Obj} {i : Nat} {x n : Str} {k : Int} {p pos : Pos} (hp : (a, oe) ∈ Y.pn) (hq : (dd, od) ∈ Y.pn) (T : XfC Y.K D) (hno : PySem.W.findIn Y.K (.ref D) n = some none) (hz : L2N.Zn (.ref D) (some dd) oe) (hf : ∃ vs, oe.data = .fields vs)
    (hv : RelO (some (.int k)) (PySem.W.lookIn n od).join) (ho : PE Y (.Name x p) (tVar i)) (hb : attributeBase (.Name x p) n Y.env (eval (.Name x p) Y.env) = eval (.Name x p) Y.env := by rfl) :
    DEx Y W i a (.Attribute (.Name x p) n pos) (mC (.int k)) :=
  pe_weak (pe_rowP hp hq T hno hz hf hv ho hb) fun σ H Q ⟨hi, B, r, O, h⟩ => ⟨.ref a, hi, rfl, h.ret (Dq.int k)⟩
end
end DL
end

section
set_option maxHeartbeats 2000000
namespace DL
open PySem PySem.Spec PySem.Calls PyProof.Rows L2
/-- the context of such a def's body: the exception and its dict are pinned -/
def cxP (CX : CXT) (P : Program) (w : World) (K : PySem.W.Frag) (mg : Str → Option Value) (base : Heap) (N : List Str) (qual : Str) (scope : Scope) (f : Addr) (cd : Value) (A : Around) (outer : List Env) (s : Shared) (H : Hp) (E : XK) (p q : Addr × Obj) : Cx :=
  { L2H.cxH CX P w K mg base N qual scope f cd A outer s H E p with pn := [p, q] }
theorem inv_startP {CX : CXT} {P : Program} {w : World} {K : PySem.W.Frag} {mg : Str → Option Value} {base : Heap} {N ps : List Str} {qual : Str} {scope : Scope} {f : Addr} {cd : Value} {A : Around} {outer : List Env} {s s1 : Shared} {H : Hp} {E : XK} {us : List Value} {vs : List V}
    (S : FnScope N ps scope) {p q : Addr × Obj} (hp : L2H.PinOk outer H s p) (hq : L2H.PinOk outer H s q) (e0 : Env0 P w K mg base A outer s H) (hl : vs.length = ps.length) (r : Vals vs us)
    (x : InCallC s s.heap.objs.size (bindL (envOfC qual scope s.heap.objs.size f cd).kindOf (ps.zip us) fun _ => none) (cellsFrom (s.heap.objs.size + 1) scope.names []) (bindC (envOfC qual scope s.heap.objs.size f cd).kindOf (ps.zip us) fun _ => none) s1) :
    Inv (cxP CX P w K mg base N qual scope f cd A outer s H E p q) [] (L2.start N vs) H s1 := by
  have I := L2H.inv_startH (CX := CX) (f := f) (cd := cd) (E := E) S hp e0 hl r x
  have J := L2H.inv_startH (CX := CX) (f := f) (cd := cd) (E := E) S hq e0 hl r x
  have ok : (cxP CX P w K mg base N qual scope f cd A outer s H E p q).Ok := by
    obtain ⟨a1, a2, a3, a4, a5, a6, a7, a8, a9, a10, a11, a12, a13, a14, a15, a16, a17, a18⟩ := I.ok
    exact ⟨a1, a2, a3, a4, a5, a6, a7, a8, a9, a10, a11, a12, a13, a14, a15, a16, a17, a18⟩
  refine ⟨ok, I.os, I.bare, I.base, I.loc, I.cell, I.free, I.freeC, fun z hz => ?_, I.hok, I.len⟩
  have hz' : z = p ∨ z = q := by simpa using (show z ∈ [p, q] ++ ([] : List (Addr × Obj)) from hz)
  rcases hz' with rfl | rfl
  · exact I.pin z (List.mem_append_left _ (List.mem_singleton_self z))
  · exact J.pin z (List.mem_append_left _ (List.mem_singleton_self z))
/-- a def that is handed the handled exception, of the class D, that has a dict -/
structure FnW2 (P : Program) (w : World) (K : PySem.W.Frag) (mg : Str → Option Value) (base : Heap) (k : Nat) (f : Addr) (fd : FuncData) (x : Str) (D : Addr) (sem : Sem) : Prop where
  run : ∀ (A : Around) (outer : List Env) (s : Shared) (H : Hp) (args : Args) (us : List Value) (Q : VK) (E : XK) (p q : Addr × Obj), L2H.RoomH k A → L2H.Hot1 A p → L2H.PinOk outer H s p → L2H.PinOk outer H s q → L2N.Zn (.ref D) (some q.1) p.2 → (∃ vs, p.2.data = .fields vs) → Env0 P w K mg base A outer s H → BindsTo s fd args ([x].zip us) →
    us = [.ref p.1] → spD K mg sem 0 [] H Q E → codeAny (model P w) A (.call (.ref f) args) (CR (L2N.CX P w) outer P w H s Q E) s
theorem fnw2_of {P : Program} {w : World} {K : PySem.W.Frag} {mg : Str → Option Value} {base : Heap} {x qual : Str} {st : Stmt} {f D : Addr} {fd : FuncData} {y : Str} {N : List Str} {k : Nat} {body : S} (F : Fun K x qual st f fd) (S : FnScope N [y] (defScope st)) (hn : 0 < N.length)
    (hbody : ∀ (cdv : Value) (A : Around) (outer : List Env) (s : Shared) (H : Hp) (E : XK) (p q : Addr × Obj), L2H.Hot1 A p → L2H.RoomH k (A.deeper (envOfC qual (defScope st) s.heap.objs.size f cdv)) → L2N.Zn (.ref D) (some q.1) p.2 → (∃ vs, p.2.data = .fields vs) →
      PSs (cxP (L2N.CX P w) P w K mg base N qual (defScope st) f cdv A outer s H E p q) (defBody st) (fun D σ H => σ[0]? = some (some (V.ref p.1)) ∧ tS ⟨K, mg⟩ (fun c d _ H => E c d H) body D σ H)) :
    FnW2 P w K mg base (k + 1) f fd y D (defSem 0 N.length body) := by
  obtain ⟨oc, od, kV, doc, pm, an, cdv, ct, osl, rfl, lk, hcd⟩ := F.ex
  refine ⟨fun A outer s H args us Q E p q0 hr hot hpin hpin2 hz hf e0 hb hus hsp => ?_⟩
  subst hus
  have KX : K.In s.heap := e0.mod.kin.keeps fun b o e => (e0.bs b o e).1
  have lim : s.heap.NoLimit := e0.mod.nolimit.keeps fun b o e => (e0.bs b o e).1
  have hkind : ∀ z ∈ [y].zip [Value.ref p.1], (defScope st).names.lookup z.1 = some .local ∨ ((defScope st).names.lookup z.1 = some .cell ∧ ((cellsFrom (s.heap.objs.size + 1) (defScope st).names []).lookup z.1).isSome = true) := fun ⟨n, v⟩ hy => by
    rcases S.par n (List.of_mem_zip hy).1 with q | q
    · exact .inl q
    · exact .inr ⟨q, PySem.W.cellsFrom_some _ _ _ (.inl q)⟩
  refine codeAny_call_function hr.depth (KX _ _ lk) rfl S.co S.gen rfl (PySem.W.codeRec_of KX hcd) (hb _ _ _ _ ?_)
  refine wpAny_newFunctionEnv_cells S.kind hkind fun env he s1 x => ?_
  subst he
  refine ⟨lim.keeps x.toInCall.keep, codeAny_func ?_⟩
  have ht := hbody cdv A outer s H E p q0 hot (hr.deeper _) hz hf
  have I := inv_startP (CX := L2N.CX P w) (vs := [V.ref p.1]) (E := E) S hpin hpin2 e0 rfl (.cons rfl .nil) x
  have h0 : (start N [V.ref p.1])[0]? = some (some (V.ref p.1)) := rfl
  have rd2 : tS ⟨K, mg⟩ (fun c d _ H => E c d H) body { nx := fun _ H' => Q .non H', rt := Q } (start N [V.ref p.1]) H := by
    exact def_read0 hn hsp
  refine wpAny_mono (ht.run [] s1 (start N [V.ref p.1]) H _ I ⟨h0, rd2⟩) (fun fl s' hs => ?_) fun e s' hs => hs
  have fin : ∀ {σ' : L2.St} {H' : Hp} {v : V} {u : Value}, Inv (cxP (L2N.CX P w) P w K mg base N qual (defScope st) f cdv A outer s H E p q0) [] σ' H' s' → RelV v u → Q v H' → CE outer P w H s Q u s' :=
    fun {σ' H' v u} J rv q => ⟨v, H', J.os, J.bare, J.base, J.hok, rv, q⟩
  cases fl with
  | ret u =>
    obtain ⟨v, σ', H', J, rv, q⟩ := hs
    exact fin J rv q
  | next =>
    obtain ⟨σ', H', J, q⟩ := hs
    exact fin (v := V.non) (u := Value.none) J rfl q
  | brk =>
    obtain ⟨_, _, _, q⟩ := hs
    exact False.elim q
  | cont =>
    obtain ⟨_, _, _, q⟩ := hs
    exact False.elim q
section
variable {X : Cx} {W : WX}
theorem dex_wordD {a D f dd : Addr} {oe od : Obj} {pn : List (Addr × Obj)} {i k : Nat} {fd : FuncData} {x y n : Str} {sem : Sem} {p p1 pos : Pos} (F : FnW2 X.prog X.w X.K X.mg X.base k f fd y D sem) (hr : Room k X.A) (hz : L2N.Zn (.ref D) (some dd) oe) (hf : ∃ vs, oe.data = .fields vs)
    (hg : Gl X x) (hm : X.mg x = some (.ref f)) (hk : PySem.W.keepIn X.K (.ref f) = true) (hb : Binds X.K fd [y] []) (ho : PE (X.suite a ((a, oe) :: (dd, od) :: pn)) (.Name n p1) (tVar i))
    (hdb : (x == ("__debug__" : Str)) = false := by decide) (he : starEach [.Name n p1] X.env = (false, eval (.Name n p1) X.env) :: starEach [] X.env := by rfl) (hpl : (backTo pos (starEach [] X.env)).any (·.1) = false := by rfl) :
    DEx (X.suite a ((a, oe) :: (dd, od) :: pn)) (fun _ _ _ _ => False) i a (.Call (.Name x p) [.Name n p1] [] pos) (mCall sem []) := by
  refine ⟨fun pins s σ H Q I h => ?_⟩
  obtain ⟨hi, h⟩ := h
  refine wpAny_Call_Name_kw (ld_glob (X := X.suite a ((a, oe) :: (dd, od) :: pn)) I hg hm ?_ hdb)
  have ha : PA (X.suite a ((a, oe) :: (dd, od) :: pn)) [.Name n p1] (tCons (tVar i) tNil) := pa_cons ho pa_nil he
  refine PySem.W.callWith_K (h₀ := X.base) I.ok.mod.kin hk (thn (ha.run pos pins s σ H (fun vs H1 => vs = [V.ref a] ∧ H1 = H) I ⟨.ref a, hi, rfl, rfl⟩) fun us s1 ⟨vs, H1, I1, r1, q1⟩ => ⟨I1.kIn, ?_⟩) he hpl
  obtain ⟨rfl, rfl⟩ := q1
  obtain rfl : us = [Value.ref a] := by
    cases r1 with
    | cons r2 r3 => cases r3; cases r2; rfl
  have hot : L2H.Hot1 (X.suite a ((a, oe) :: (dd, od) :: pn)).A (a, oe) := by
    obtain ⟨vs, hv⟩ := hf
    exact ⟨rfl, vs, hv, hz.2.2 vs hv⟩
  have P1 := I1.pin (a, oe) (List.mem_append_left _ List.mem_cons_self)
  have hpin : L2H.PinOk X.stack H1 s1 (a, oe) := ⟨P1.1, P1.2.1, fun hm => (List.mem_cons.mp (I1.stkSub a hm)).elim P1.2.2.1 P1.2.2.2.1, P1.2.2.2.2⟩
  have P2 := I1.pin (dd, od) (List.mem_append_left _ (List.mem_cons_of_mem _ List.mem_cons_self))
  have hpin2 : L2H.PinOk X.stack H1 s1 (dd, od) := ⟨P2.1, P2.2.1, fun hm => (List.mem_cons.mp (I1.stkSub dd hm)).elim P2.2.2.1 P2.2.2.2.1, P2.2.2.2.2⟩
  have b := hb s1 [Value.ref a] I1.kIn rfl
  rw [List.append_nil] at b
  have hsp : spD X.K X.mg sem 0 [] H1 Q (fun _ _ _ => False) := by
    have z := call_reads (X := X.suite a ((a, oe) :: (dd, od) :: pn)) (n := 0) (sem := sem) (ms := []) rfl h
    obtain ⟨B, r, O, c, o, r', e, q⟩ := z
    cases e
    exact q B H1 O [] .refl c .refl .nil
  have env := I1.env0
  refine wpAny_call (codeAny_mono (F.run (X.suite a ((a, oe) :: (dd, od) :: pn)).A X.stack s1 H1 ⟨[.ref a], []⟩ [.ref a] Q (fun _ _ _ => False) (a, oe) (dd, od) ⟨hr.dp, hr.un⟩ hot hpin hpin2 hz hf env b rfl hsp) fun r s' hq => ?_)
  cases r with
  | error e =>
    obtain ⟨_, _, _, _, _, _, _, _, _, _, _, _, z⟩ := hq
    exact z.elim
  | ok fl =>
    cases fl with
    | ret u => exact I1.after hq
    | next => exact False.elim hq
    | brk => exact False.elim hq
    | cont => exact False.elim hq
end
end DL
end

section
set_option maxHeartbeats 2000000
namespace DL
open PySem PySem.Spec PySem.Calls PyProof.Rows L2
section
variable {X : Cx} {W : WX} {i : Nat} {ad : Addr}
/-- tests that ask the exception in slot i -/
def DTx (X : Cx) (W : WX) (i : Nat) (ad : Addr) (ifs : List Expr) (m : M Bool) : Prop := PTs X ifs (fun σ H Q => σ[i]? = some (some (V.ref ad)) ∧ tG (Cx.g X) W m rB σ H Q)
theorem dtx_one {c : Expr} {m : M Bool} (h : DBx X W i ad c m) : DTx X W i ad [c] m := pts_one h
theorem lc_readS {lo : Bool} {mi : M (List D)} {vs ix : List Nat} {set : D → S} {t : M Bool} {me : M RV} (hix : ∀ j ∈ ix, j ∈ vs) {σ : L2.St} {H : Hp} {Q : VK} (hi : σ[i]? = some (some (V.ref ad))) (hni : i ∉ vs) (h : tG (Cx.g X) W (mLc vs mi set t me) (rV (Cx.g X)) σ H Q) :
    tLc (tG (Cx.g X) W mi (rI (Cx.g X) lo)) (gD X.K lo ix set) (fun σ H Q => σ[i]? = some (some (V.ref ad)) ∧ tG (Cx.g X) W0 t rB σ H Q) (tG (Cx.g X) W0 me (rV (Cx.g X))) vs σ H Q := by
  have z := lc_read (lo := lo) hix h
  obtain ⟨B, r, O, z⟩ := z
  refine tG.of (z.mono fun J H1 k D hD => ?_)
  obtain ⟨Wf, w0, w1⟩ := k D hD
  refine ⟨Wf, w0, fun i' m H hW => ?_⟩
  rcases w1 i' m H hW with h | ⟨hgo, Nx, n1, n2⟩
  · exact .inl h
  · refine .inr ⟨hgo, Nx, n1, fun x H' y => ?_⟩
    obtain ⟨B2, r2, O2, d, r3, c, q, e, p⟩ := n2 x H' y
    refine ⟨B2, r2, O2, d, r3, c, q, e, fun σ' c' b' k' l' => ?_⟩
    obtain ⟨e1, e2⟩ := p σ' c' b' k' l'
    refine ⟨e1, ?_, e2⟩
    rw [← wipe_out (σ := σ') hni, e1, wipe_out hni]
    exact hi
/-- [.. for .. in .. if ..], the tests ask the exception -/
theorem dex_lcK {lo : Bool} {elt tg iter : Expr} {ifs : List Expr} {scope : Scope} {own : List (Str × Nat)} {pos : Pos} {mi : M (List D)} {ix : List Nat} {set : D → S} {t : M Bool} {me : M RV} (hc : L2H.HotC X) (hN : X.N.Nodup) (hi : DIK X W lo tg iter mi) (ok : BlkOk X.N X.env.scope scope own)
    (hg : ∀ (s : Shared) (H : Hp) (C : Addr) (cl : List (Str × Addr)) (fp : List Addr), DG (X.blk s H scope (compEnvC scope cl C X.env) fp) lo tg ix set) (ht : ∀ (s : Shared) (H : Hp) (C : Addr) (cl : List (Str × Addr)) (fp : List Addr), PinIn X s H fp → DTx (X.blk s H scope (compEnvC scope cl C X.env) fp) W0 i ad ifs t)
    (he : ∀ (s : Shared) (H : Hp) (C : Addr) (cl : List (Str × Addr)) (fp : List Addr), DE (X.blk s H scope (compEnvC scope cl C X.env) fp) W0 elt me) (hix : ∀ j ∈ ix, j ∈ own.map (·.2)) (hni : i ∉ own.map (·.2)) (hs : ∀ x, foldedSetIterable iter X.env x = pure x := by intro _; rfl) :
    DEx X W i ad (.ListComp elt [⟨tg, iter, ifs, 0⟩] scope pos) (mLc (own.map (·.2)) mi set t me) :=
  pe_weak (pe_lcK (g := gD X.K lo ix set) (tt := fun σ H Q => σ[i]? = some (some (V.ref ad)) ∧ tG (Cx.g X) W0 t rB σ H Q) (te := tG (Cx.g X) W0 me (rV (Cx.g X))) hc hN hi ok (fun s H C cl fp _ => hg s H C cl fp) ht he hs) fun σ H Q ⟨h1, h⟩ => lc_readS hix h1 hni h
/-- isinstance of the exception in a comprehension's block: it stands as it stood where the block was entered -/
theorem call_isB {a D dd : Addr} {oe od : Obj} {s0 : Shared} {H0 : Hp} {scope : Scope} {ce : Env} {fp : List Addr} (P1 : StdIn X s0 H0 fp (a, oe)) (P2 : StdIn X s0 H0 fp (dd, od)) (C : ExcC X.K D) (hz : L2N.Zn (.ref D) (some dd) oe) (hf : ∃ vs, oe.data = .fields vs) :
    CallR (X.blk s0 H0 scope ce fp) (.builtin "isinstance") (rIsE X.K D a) := by
  intro pins s σ H xs us Q I r h
  obtain ⟨c, cv, b, rfl, hcv, e, q⟩ := h
  cases r with
  | cons rx rr =>
    cases rr with
    | cons rt rr =>
      cases rr
      cases rx
      have ec := hcv _ rt
      subst ec
      have hget := I.base.keep a oe P1.1 P1.2.1 P1.2.2.1 P1.2.2.2
      have hget2 := I.base.keep dd od P2.1 P2.2.1 P2.2.2.1 P2.2.2.2
      obtain ⟨vs, hv⟩ := hf
      have J : PySem.W.InstAt s.heap a oe D (some od) := ⟨hget, hz.1, by unfold PySem.W.notCls; rw [hv] <;> rfl, by rw [hz.2.1]; exact hget2⟩
      exact PySem.W.kia_one (PySem.W.kitx_exc (by obtain ⟨cd, hc, _⟩ := PySem.W.any_some C.hd; rw [hc]; rfl) C.hg C.hk C.hs C.ha C.hn C.ht C.hm) I.kIn J e (fun z => nomatch z) fun tk => ⟨.bl b, H, I.kept (t' := tk) fun _ _ z => z, rfl, q⟩
theorem dex_isB {a D dd : Addr} {oe od : Obj} {s0 : Shared} {H0 : Hp} {scope : Scope} {ce : Env} {fp : List Addr} {i : Nat} {n T : Str} {c : V} {cv : Value} {b : Bool} {p p1 p2 pos : Pos} (P1 : StdIn X s0 H0 fp (a, oe)) (P2 : StdIn X s0 H0 fp (dd, od)) (C : ExcC X.K D) (hz : L2N.Zn (.ref D) (some dd) oe) (hf : ∃ vs, oe.data = .fields vs)
    (hg : Gl (X.blk s0 H0 scope ce fp) "isinstance") (hm : X.mg "isinstance" = none) (ho : PE (X.blk s0 H0 scope ce fp) (.Name n p1) (tVar i)) (hT : PE (X.blk s0 H0 scope ce fp) (.Name T p2) (tC c)) (hc : ClsV c cv) (hk : PySem.W.kitOne X.K (.ref D) cv = some b)
    (h1 : starEach [.Name n p1, .Name T p2] ce = (false, eval (.Name n p1) ce) :: starEach [.Name T p2] ce := by rfl) (h2 : starEach [.Name T p2] ce = (false, eval (.Name T p2) ce) :: starEach [] ce := by rfl)
    (hpl : (backTo pos (starEach [.Name T p2] ce)).any (·.1) = false := by rfl) (hv : bootBuiltins "isinstance" = some (.builtin "isinstance") := by decide +kernel) :
    DEx (X.blk s0 H0 scope ce fp) W i a (.Call (.Name "isinstance" p) [.Name n p1, .Name T p2] [] pos) (mC (.bool b)) :=
  pe_weak (pe_callB (X := X.blk s0 H0 scope ce fp) (call_isB P1 P2 C hz hf) hg hm hv (pa_cons ho (pa_cons hT pa_nil h2) h1) (by decide) (by decide) h1 hpl) fun σ H Q ⟨hi, B, r, O, h⟩ =>
    ⟨.ref a, hi, c, cv, b, rfl, fun u hu => (hc.eq hu), hk, h.ret (Dq.bl b)⟩
/-- return .. -/
theorem dxx_ret {e : Expr} {pos : Pos} {m : M RV} (h : DEx X W i ad e m) : PSs X [.Return (some e) pos] (tX X W i ad (sRet m)) :=
  pss_weak (pss_one (ps_ret h)) fun D σ H ⟨hi, B, r, O, h⟩ => by
    refine ⟨hi, tG.of (h.ex.mono ?_)⟩
    rintro y H1 ⟨v, B1, r1, O1, s1, b1, x1, c1, o, r', e, p⟩
    cases e
    exact p B1 H1 O1 σ y s1 c1 b1 x1
end
end DL
end

section
set_option maxHeartbeats 2000000
namespace DL
open PySem PySem.Spec PySem.Calls PyProof.Rows L2
section
variable {X : Cx} {W : WX} {i : Nat} {ad : Addr}
theorem inv_repin {a : Addr} {pn pn' pins pins' : List (Addr × Obj)} {σ : L2.St} {H : Hp} {s : Shared} (I : Inv (X.suite a pn) pins σ H s) (h : ∀ p ∈ pn' ++ pins', p ∈ pn ++ pins) : Inv (X.suite a pn') pins' σ H s := by
  have ok : (X.suite a pn').Ok := by
    obtain ⟨a1, a2, a3, a4, a5, a6, a7, a8, a9, a10, a11, a12, a13, a14, a15, a16, a17, a18⟩ := I.ok
    exact ⟨a1, a2, a3, a4, a5, a6, a7, a8, a9, a10, a11, a12, a13, a14, a15, a16, a17, a18⟩
  exact ⟨ok, I.os, I.bare, I.base, I.loc, I.cell, I.free, I.freeC, fun p hp => I.pin p (h p hp), I.hok, I.len⟩
/-- the dict goes to the pins -/
theorem pss_pinD {a dd : Addr} {oe : Obj} {pn : List (Addr × Obj)} {sts : List Stmt} {vs : List (Str × V)} {t : Obj → TS}
    (h : ∀ od : Obj, (∀ f, RelO (vs.lookup f) ((PySem.W.lookIn f od).join)) → PSs (X.suite a ((a, oe) :: (dd, od) :: pn)) sts (t od)) :
    PSs (X.suite a ((a, oe) :: pn)) sts (fun D σ H => H dd = some (.xd vs) ∧ ∀ od : Obj, (∀ f, RelO (vs.lookup f) ((PySem.W.lookIn f od).join)) → t od D σ (del H dd)) := by
  refine ⟨fun pins s σ H D I ⟨e, q⟩ => ?_⟩
  obtain ⟨od, h1, _, J⟩ := inv_pinD (pn := []) I e
  have J' : Inv (X.suite a ((a, oe) :: (dd, od) :: pn)) pins σ (del H dd) s := inv_repin J fun p hp => by
    simp only [List.mem_append, List.mem_cons, List.nil_append] at hp ⊢
    rcases hp with (h | h | h) | h
    · exact .inl (.inl h)
    · exact .inr (.inl h)
    · exact .inl (.inr h)
    · exact .inr (.inr h)
  have back : ∀ {σ' : L2.St} {H' : Hp} {s' : Shared}, Inv (X.suite a ((a, oe) :: (dd, od) :: pn)) pins σ' H' s' → Inv (X.suite a ((a, oe) :: pn)) pins σ' H' s' := fun K => inv_repin K fun p hp => by
    simp only [List.mem_append, List.mem_cons] at hp ⊢
    rcases hp with (h | h) | h
    · exact .inl (.inl h)
    · exact .inl (.inr (.inr h))
    · exact .inr h
  refine wpAny_mono ((h od h1).run pins s σ (del H dd) D J' (q od h1)) (fun fl s' hs => ?_) fun _ _ z => z
  cases fl with
  | next => obtain ⟨σ', H', K, z⟩ := hs; exact ⟨σ', H', back K, z⟩
  | brk => obtain ⟨σ', H', K, z⟩ := hs; exact ⟨σ', H', back K, z⟩
  | cont => obtain ⟨σ', H', K, z⟩ := hs; exact ⟨σ', H', back K, z⟩
  | ret u => obtain ⟨v, σ', H', K, rv, z⟩ := hs; exact ⟨v, σ', H', back K, rv, z⟩
end
end DL
end

section
set_option maxHeartbeats 2000000
namespace DL
open PySem PySem.Spec PySem.Calls PyProof.Rows L2
section
variable {X : Cx} {W : WX}
/-- the suite's promise, for an exception without a row, with a row -/
def SuiteN (X : Cx) (sts : List Stmt) (i : Nat) (m : S) (C : Addr) : Prop :=
  ∀ (a : Addr) (oe : Obj) (pn : List (Addr × Obj)), L2N.Zn (.ref C) none oe → (∃ vs, oe.data = .fields vs) → PSs (X.suite a ((a, oe) :: pn)) sts (tX (X.suite a ((a, oe) :: pn)) (fun _ _ _ _ => False) i a m)
def SuiteR (X : Cx) (sts : List Stmt) (i : Nat) (m : Int → S) (C : Addr) : Prop :=
  ∀ (k : Int) (a dd : Addr) (oe od : Obj) (pn : List (Addr × Obj)), L2N.Zn (.ref C) (some dd) oe → (∃ vs, oe.data = .fields vs) → RelO (some (.int k)) (PySem.W.lookIn "row" od).join → PSs (X.suite a ((a, oe) :: (dd, od) :: pn)) sts (tX (X.suite a ((a, oe) :: (dd, od) :: pn)) (fun _ _ _ _ => False) i a (m k))
theorem suiteN_stuck {sts : List Stmt} {i : Nat} {C : Addr} : SuiteN X sts i sStuck C := fun a oe pn _ _ => ⟨fun pins s σ H D I ⟨_, B, r, O, c, o, r', e, _⟩ => by cases e⟩
theorem ds_tryD {x n : Str} {cv : Value} {i : Nat} {body : List Stmt} {b₀ : Stmt} {suite : List Stmt} {np pos pos' : Pos} {mb : S} {L : List String} {m0 : String → S} {m1 : String → Int → S} (hs : X.stack = X.env :: X.outer) (hf : X.env.frame = some X.env.locals) (hN : X.N.Nodup) (hi : X.N[i]? = some n) (hln : X.env.kindOf n = some .local)
    (hc : Names X x cv) (tk : L2N.Takes X W)
    (hb : ∀ (W' : WX) (pn : List (Addr × Obj)) (xe : Value → Shared → Prop), L2N.Takes (X.tr pn xe) W' → PassesOwn (model X.prog X.w) X.A X.env xe → DSs (X.tr pn xe) W' body mb)
    (hL : ∀ n ∈ L, ∀ C, X.mg (Str.ofString n) = some (.ref C) → PySem.W.exmOne X.K (.ref C) cv = some true)
    (hS : ∀ n ∈ L, ∀ C, X.mg (Str.ofString n) = some (.ref C) → SuiteN X (b₀ :: suite) i (m0 n) C ∧ SuiteR X (b₀ :: suite) i (fun k => m1 n k) C) :
    DS X W (.Try body [.ExceptHandler (some (.Name x np)) (some n) (b₀ :: suite) pos'] [] [] pos) (sTryD mb L i m0 m1) :=
  ps_weak (L2N.ps_try_as (i := i) (tb := fun W' => tS (Cx.g X) W' mb)
    (ts := fun a cls d D σ H => ∃ n, n ∈ L ∧ ∃ C, X.mg (Str.ofString n) = some (.ref C) ∧ cls = .ref C ∧ ((d = none ∧ tX X (fun _ _ _ _ => False) i a (m0 n) D σ H) ∨
      ∃ (k : Int) (dd : Addr), d = some dd ∧ H dd = some (.xd [("row", .int k)]) ∧ tX X (fun _ _ _ _ => False) i a (m1 n k) D σ (del H dd)))
    hs hf hN hi hln hc tk hb (fun a oe cls d pn hz hv => ⟨fun pins s σ H D I h => by
      obtain ⟨n, hn, C, hC, rfl, h1⟩ := h
      rcases h1 with ⟨rfl, h1⟩ | ⟨k, dd, rfl, hd, h1⟩
      · exact ((hS n hn C hC).1 a oe pn hz hv).run pins s σ H D I h1
      · exact (pss_pinD (dd := dd) (vs := [("row", .int k)]) (t := fun _ => tX X (fun _ _ _ _ => False) i a (m1 n k)) fun od ho => (hS n hn C hC).2 k a dd oe od pn hz hv (ho "row")).run pins s σ H D I ⟨hd, fun _ _ => h1⟩⟩)) fun D σ H ⟨B, r, O, c, o, r', e, p⟩ => by
  refine ⟨B, r, O, c, ?_⟩
  unfold sTryD at e
  cases q : mb r with
  | none => rw [q] at e; cases e
  | some z =>
    obtain ⟨o1, r1⟩ := z
    rw [q] at e
    refine ⟨o1, r1, rfl, ?_⟩
    cases o1 with
    | nx => cases e; exact p
    | brk => cases e; exact p
    | cnt => cases e; exact p
    | ret v => cases e; exact p
    | rets k => cases e; exact p
    | exc x0 =>
      simp only at e
      split at e
      · rename_i y hy
        split at e
        · rename_i hcond
          obtain ⟨h1, h2⟩ := hcond
          intro B1 H1 O1 σ1 cls dx s1 c1 b1 x1
          obtain ⟨C, hC, rfl, hdx⟩ := x1
          have hmem : x0.cls ∈ L := by simpa using h1
          refine ⟨true, hL _ hmem C hC, fun _ a ha => ?_, fun z => by cases z⟩
          have hil : i < σ1.length := by rw [← c1.len]; exact (List.getElem?_eq_some_iff.mp hy).1
          refine ⟨x0.cls, hmem, C, hC, rfl, ?_⟩
          -- the suite from a heap H1' at which the slots are as they were
          have main : ∀ H1' : Hp, Step B H O B1 H1' O1 → Con X.K B1 H1' σ1 r1 O1 → tX X (fun _ _ _ _ => False) i a (match x0.row with | none => m0 x0.cls | some k => m1 x0.cls k) { nx := fun σ' H' => D.nx (List.set σ' i none) H', rt := D.rt, bk := fun σ' H' => D.bk (List.set σ' i none) H', ct := fun σ' H' => D.ct (List.set σ' i none) H' } (σ1.set i (some (V.ref a))) H1' := by
            intro H1' s1 c1
            have c2 : Con X.K B1 H1' (σ1.set i (some (V.ref a))) (r1.set i .non) O1 := c1.replace (x := .non) (by rw [List.length_set]) (fun k hk => List.getElem?_set_ne (Ne.symm hk)) trivial (fun _ _ z => by cases z)
            refine ⟨List.getElem?_set_self hil, B1, _, O1, c2, ?_⟩
            have bk : ∀ {B2 H2 O2 σ2 r2 z}, Con X.K B2 H2 σ2 r2 O2 → Bor (r1.set i .non) (σ1.set i (some (V.ref a))) r2 σ2 → r2[i]? = some z → putSl.pinnedB z = false →
                Con X.K B2 H2 (σ2.set i none) (r2.set i .non) O2 ∧ Bor r σ (r2.set i .non) (σ2.set i none) := fun {B2 H2 O2 σ2 r2 z} c3 b3 hz hzp => by
              refine ⟨c3.replace (x := .non) (by rw [List.length_set]) (fun k hk => List.getElem?_set_ne (Ne.symm hk)) trivial (fun _ _ z => by cases z), fun k w hw pw => ?_⟩
              obtain ⟨⟨w1, g1, g2⟩, g3⟩ := b1 k w hw pw
              have hki : k ≠ i := fun z => by
                subst z
                rw [hy] at g1
                cases g1
                have : putSl.pinnedB y = true := by cases y <;> exact g2
                rw [h2] at this
                cases this
              obtain ⟨⟨w2, g4, g5⟩, g6⟩ := b3 k w1 (by rw [List.getElem?_set_ne (Ne.symm hki)]; exact g1) g2
              refine ⟨⟨w2, by rw [List.getElem?_set_ne (Ne.symm hki)]; exact g4, g5⟩, ?_⟩
              rw [List.getElem?_set_ne (Ne.symm hki), g6, List.getElem?_set_ne (Ne.symm hki), g3]
            unfold endTry at e
            split at e
            · rename_i r2 q2
              split at e
              · rename_i z hz
                split at e
                · rename_i hzp
                  cases e
                  refine ⟨.nx, r2, q2, fun B2 H2 O2 σ2 s2 c3 b3 => ?_⟩
                  obtain ⟨c4, b4⟩ := bk c3 b3 hz hzp
                  exact p B2 H2 O2 _ (s1.trans s2) c4 b4
                · cases e
              · cases e
            · rename_i v r2 q2
              split at e
              · rename_i z hz
                split at e
                · rename_i hzp
                  cases e
                  refine ⟨.ret v, r2, q2, fun B2 H2 O2 σ2 x s2 c3 b3 x3 => ?_⟩
                  obtain ⟨c4, b4⟩ := bk c3 b3 hz hzp
                  refine p B2 H2 O2 _ x (s1.trans s2) c4 b4 ?_
                  exact later_rV (G := Cx.g X) H H1' B2 H2 O2 (σ2.set i none) v x s1.live x3
                · cases e
              · cases e
            · cases e
          cases hrow : x0.row with
          | none =>
            rw [hrow] at hdx
            have hdx : dx = none := hdx
            subst hdx
            have := main H1 s1 c1
            rw [hrow] at this
            exact .inl ⟨rfl, this⟩
          | some k =>
            rw [hrow] at hdx
            obtain ⟨d, rfl, hd1, hd2, hd3, hd4⟩ := hdx
            have ne : ∀ b, O1 b → b ≠ d := fun b hb z => hd4 (z ▸ hb)
            have c1' : Con X.K B1 (del H1 d) σ1 r1 O1 := c1.mono (Same.refl _) (fun b o hb => by
              have hne : b ≠ d := fun z => by rw [z, hd3] at hb; cases hb
              rw [del_ne hne]; exact c1.sub b o hb) (fun b hb => del_ne (ne b hb)) c1.off
            have s1' : Step B H O B1 (del H1 d) O1 := ⟨s1.sB, fun b o hb hn => by
                have hne : b ≠ d := fun z => by rw [z, hd2] at hb; cases hb
                rw [del_ne hne]; exact s1.keep b o hb hn, fun b hb => by
                have hne : b ≠ d := fun z => by rw [z] at hb; exact hb hd2
                rw [del_ne hne]; exact s1.live b hb, s1.nB, s1.nO⟩
            have := main (del H1 d) s1' c1'
            rw [hrow] at this
            exact .inr ⟨k, d, rfl, hd1, this⟩
        · cases e
      · cases e
theorem dbx_cmp {i : Nat} {ad : Addr} {a b : Expr} {op : CmpOp} {pos : Pos} {g : List Rs → Option RV} {ma : M RV} {ob : M AV} (ho : OpD X (compareOp op) g) (ha : DEx X W i ad a ma) (hb : DO X W b ob) (hm : behindInMarks op b = false) :
    DBx X W i ad (.Compare a [op] [b] pos) (mTst (mOp g [oE ma, ob])) :=
  pt_weak (pt_cmpR ho ha hb hm) fun σ H Q ⟨hi, B, r, O, h⟩ => by
    have h2 := (h.bind later_rB (R := rV (Cx.g X))).mono (Q' := fun y H' => ∃ k, y = .bl k ∧ Q k H') fun y H1 ⟨v, B1, r1, O1, s1, x1, h1⟩ => h1.ofBool x1
    rw [mOp_two] at h2
    refine ⟨hi, oE_reads (tG.of ((h2.bind later_rV (R := rA (Cx.g X))).mono ?_))⟩
    rintro x H1 ⟨a, B1, r1, O1, s1, x1, h1⟩
    refine tG.of ((h1.bind later_rV (R := rA (Cx.g X))).mono ?_)
    rintro y H2 ⟨b, B2, r2, O2, s2, x2, h2⟩
    obtain ⟨xs, z, sb, p, hg, q⟩ := h2.fin (.cons (x1.same s2.sB) (.cons x2 .nil))
    cases p with
    | cons p1 p => cases p with
      | cons p2 p =>
        cases p
        exact ⟨B2, _, _, z, sb, p1, p2, hg, q⟩
/-- if ..: return .. in a suite, both ask the exception -/
theorem dxx_ifRetX {i : Nat} {ad : Addr} {c e : Expr} {pos pos2 : Pos} {sts : List Stmt} {t : M Bool} {me : M RV} {m2 : S} (hc : DBx X W i ad c t) (he : DEx X W i ad e me) (ht : PSs X sts (tX X W i ad m2)) : PSs X (.If c [.Return (some e) pos2] [] pos :: sts) (tX X W i ad (sSeq (sIf t (sRet me) sNx) m2)) :=
  pss_weak (pss_cons (ps_if hc (dxx_ret he) pss_nil) ht) fun D σ H ⟨hi, B, r, O, h⟩ => by
    refine ⟨hi, tG.of (h.seq.ex.mono ?_)⟩
    rintro y H1 ⟨v, B1, r1, O1, s1, b1, x1, c1, o, r', e, p⟩
    cases x1
    cases y with
    | true =>
      refine iteT ⟨hi, tS.of (AtS.after s1 c1 b1 e ?_)⟩
      have e : sRet me r1 = some (o, r') := e
      unfold sRet sEx at e
      cases q : me r1 with
      | none => rw [q] at e; cases e
      | some z =>
        obtain ⟨o1, r2⟩ := z
        rw [q] at e
        cases o1 with
        | ok a => cases e; exact p
        | exc x => cases e; exact p
    | false =>
      cases e
      exact iteF ⟨hi, p B1 H1 O1 σ s1 c1 b1⟩
theorem dxx_nil {i : Nat} {ad : Addr} : PSs X [] (tX X W i ad sNx) := dxx_of dss_nil
end
structure RowE (P : Program) (w : World) (K : PySem.W.Frag) (mg : Str → Option Value) (base : Heap) (cls : String) (C : Addr) : Prop where
  gC : mg (Str.ofString cls) = some (.ref C)
  ex : ∃ (fI : Addr) (fd : FuncData) (ps : List Str), RowK K C fI ∧ FnOk P w K mg base noCX 1 fI fd ps (spRow K C) ∧ Binds K fd ps []
theorem ds_raiseE {X : Cx} {W : WX} {cls : String} {e : Expr} {m : M RV} {C : Addr} {p pos pos' : Pos} (hc : X.calm = true) (tk : L2N.Takes X W) (R : RowE X.prog X.w X.K X.mg X.base cls C) (hr : Room 2 X.A) (hg : Gl X (Str.ofString cls)) (he : DE X W e m)
    (hdb : (Str.ofString cls == ("__debug__" : Str)) = false := by decide) (hs : starEach [e] X.env = (false, eval e X.env) :: starEach [] X.env := by rfl) (hpl : (backTo pos (starEach [] X.env)).any (·.1) = false := by rfl) :
    DS X W (.Raise (some (.Call (.Name (Str.ofString cls) p) [e] [] pos)) none pos') (sRaiseR cls m) := by
  obtain ⟨fI, fd, ps, T, F, B⟩ := R.ex
  exact ds_raiseR hc tk T F hr B hg R.gC he hdb hs hpl
theorem hot_wordP {CX : CXT} {P : Program} {w : World} {K : PySem.W.Frag} {mg : Str → Option Value} {base : Heap} {N : List Str} {qual : Str} {scope : Scope} {f : Addr} {cd : Value} {A : Around} {outer : List Env} {s : Shared} {H : Hp} {E : XK} {p q : Addr × Obj} (hot : L2H.Hot1 A p) :
    L2H.HotC (cxP CX P w K mg base N qual scope f cd A outer s H E p q) := ⟨p, hot, List.mem_cons_self⟩
theorem xf_of {K : PySem.W.Frag} {D : Addr} (C : ExcC K D) : XfC K D := ⟨C.hg, C.hk, C.hs, C.hd⟩
abbrev OexL (K : PySem.W.Frag) (C : Addr) : Prop := ∃ nm q N bs bm sn sub ab col dd k0 k1 k2 k3 k5, K.lookup C = some (excClassObj nm q C N bs bm true sn sub ab col dd k0 k1 k2 k3 k5 "ValueError.__new__") ∧ PySem.HandSPX.refsVE bm = true
abbrev OexO (ob : Obj) (C : Addr) : Prop := ∃ nm q N bs bm sn sub ab col dd k0 k1 k2 k3 k5, ob = excClassObj nm q C N bs bm true sn sub ab col dd k0 k1 k2 k3 k5 "ValueError.__new__" ∧ PySem.HandSPX.refsVE bm = true
theorem oexL {K : PySem.W.Frag} {C : Addr} {ob : Obj} (h : K.lookup C = some ob) (o : OexO ob C) : OexL K C := by
  obtain ⟨nm, q, N, bs, bm, sn, sub, ab, col, dd, k0, k1, k2, k3, k5, rfl, r⟩ := o
  exact ⟨nm, q, N, bs, bm, sn, sub, ab, col, dd, k0, k1, k2, k3, k5, h, r⟩
theorem one_nil {mg : Str → Option Value} {P : String → Addr → Prop} : ∀ n ∈ ([] : List String), ∀ C', mg (Str.ofString n) = some (.ref C') → P n C' := fun n h => by cases h
theorem one_cons {mg : Str → Option Value} {P : String → Addr → Prop} {x : String} {L : List String} {C : Addr} (gC : mg (Str.ofString x) = some (.ref C)) (h : P x C) (t : ∀ n ∈ L, ∀ C', mg (Str.ofString n) = some (.ref C') → P n C') :
    ∀ n ∈ x :: L, ∀ C', mg (Str.ofString n) = some (.ref C') → P n C' := fun n hn C' hC => by
  rcases List.mem_cons.mp hn with rfl | hn
  · rw [gC] at hC
    cases hC
    exact h
  · exact t n hn C' hC
section
variable {X : Cx} {i : Nat} {b₀ : Stmt} {suite : List Stmt} {m0 : String → S} {m1 : String → Int → S}
theorem suites_nil : ∀ n ∈ ([] : List String), ∀ C, X.mg (Str.ofString n) = some (.ref C) → SuiteN X (b₀ :: suite) i (m0 n) C ∧ SuiteR X (b₀ :: suite) i (fun k => m1 n k) C := fun n h => by cases h
theorem suites_cons {x : String} {L : List String} {C : Addr} (gC : X.mg (Str.ofString x) = some (.ref C)) (h1 : SuiteN X (b₀ :: suite) i (m0 x) C) (h2 : SuiteR X (b₀ :: suite) i (fun k => m1 x k) C)
    (t : ∀ n ∈ L, ∀ C, X.mg (Str.ofString n) = some (.ref C) → SuiteN X (b₀ :: suite) i (m0 n) C ∧ SuiteR X (b₀ :: suite) i (fun k => m1 n k) C) :
    ∀ n ∈ x :: L, ∀ C, X.mg (Str.ofString n) = some (.ref C) → SuiteN X (b₀ :: suite) i (m0 n) C ∧ SuiteR X (b₀ :: suite) i (fun k => m1 n k) C := fun n hn C' hC => by
  rcases List.mem_cons.mp hn with rfl | hn
  · rw [gC] at hC
    cases hC
    exact ⟨h1, h2⟩
  · exact t n hn C' hC
end
end DL
end

section
set_option maxHeartbeats 2000000
namespace DL
open PySem PySem.Spec PySem.Calls PyProof.Rows L2
section
variable {X : Cx} {W : WX}
end
end DL
end

section
set_option maxHeartbeats 2000000
namespace DL
open PySem PySem.Spec PySem.Calls PyProof.Rows L2
section
variable {X : Cx} {W : WX}
end
end DL
end

section
namespace DL
open PySem
def trySD (L : List String) (i : Nat) (m0 : String → S) (m1 : String → Int → S) (Q : SO → Ro → Prop) (o : SO) (r1 : Ro) (t : Tok Q := .tok) (u : Tok m0 := .tok) (v : Tok m1 := .tok) : Prop := match o with
  | .exc x => optP r1[i]? fun y => L.contains x.cls = true ∧ putSl.pinnedB y = false ∧ setP r1 i .non fun r1' => W (match x.row with | none => m0 x.cls | some k => m1 x.cls k) r1' (fun o r => endTP i Q o r)
  | o => Q o r1
section
variable {L : List String} {i : Nat} {m0 : String → S} {m1 : String → Int → S} {Q : SO → Ro → Prop} {r r1 : Ro}
@[simp, simp ↓] theorem trySD_nx : trySD L i m0 m1 Q .nx r1 ↔ Q .nx r1 := Iff.rfl
@[simp, simp ↓] theorem trySD_brk : trySD L i m0 m1 Q .brk r1 ↔ Q .brk r1 := Iff.rfl
@[simp, simp ↓] theorem trySD_cnt : trySD L i m0 m1 Q .cnt r1 ↔ Q .cnt r1 := Iff.rfl
@[simp, simp ↓] theorem trySD_ret {v : RV} : trySD L i m0 m1 Q (.ret v) r1 ↔ Q (.ret v) r1 := Iff.rfl
@[simp, simp ↓] theorem trySD_rets {k : Nat} : trySD L i m0 m1 Q (.rets k) r1 ↔ Q (.rets k) r1 := Iff.rfl
@[simp, simp ↓] theorem trySD_excN {c : String} : trySD L i m0 m1 Q (.exc ⟨c, none⟩) r1 ↔ optP r1[i]? fun y => L.contains c = true ∧ putSl.pinnedB y = false ∧ setP r1 i .non fun r1' => W (m0 c) r1' (fun o r => endTP i Q o r) := Iff.rfl
@[simp, simp ↓] theorem trySD_excR {c : String} {k : Int} : trySD L i m0 m1 Q (.exc ⟨c, some k⟩) r1 ↔ optP r1[i]? fun y => L.contains c = true ∧ putSl.pinnedB y = false ∧ setP r1 i .non fun r1' => W (m1 c k) r1' (fun o r => endTP i Q o r) := Iff.rfl
@[simp, simp ↓] theorem W_sTryD {b : S} : W (sTryD b L i m0 m1) r Q ↔ W b r fun o r1 => trySD L i m0 m1 Q o r1 := by
  constructor
  · rintro ⟨o, r2, e, q⟩
    unfold sTryD at e
    cases hb : b r with
    | none => rw [hb] at e; cases e
    | some z =>
      obtain ⟨o1, r1⟩ := z
      rw [hb] at e
      refine ⟨o1, r1, hb, ?_⟩
      cases o1 with
      | exc x =>
        simp only at e
        split at e
        · rename_i y hy
          split at e
          · rename_i hc
            obtain ⟨c1, c2⟩ := hc
            unfold endTry at e
            split at e
            · rename_i r3 q3
              split at e
              · rename_i z hz
                split at e
                · rename_i hp
                  cases e
                  exact ⟨y, hy, c1, c2, .nx, r3, q3, z, hz, hp, q⟩
                · cases e
              · cases e
            · rename_i v r3 q3
              split at e
              · rename_i z hz
                split at e
                · rename_i hp
                  cases e
                  exact ⟨y, hy, c1, c2, .ret v, r3, q3, z, hz, hp, q⟩
                · cases e
              · cases e
            · cases e
          · cases e
        · cases e
      | nx => cases e; exact q
      | brk => cases e; exact q
      | cnt => cases e; exact q
      | ret v => cases e; exact q
      | rets k => cases e; exact q
  · rintro ⟨o1, r1, hb, q⟩
    cases o1 with
    | exc x =>
      obtain ⟨y, hy, c1, c2, o, r3, q3, q⟩ := q
      have q3 : (match x.row with | none => m0 x.cls | some k => m1 x.cls k) (r1.set i .non) = some (o, r3) := q3
      cases o with
      | nx =>
        obtain ⟨z, hz, hp, q⟩ := q
        refine ⟨.nx, r3.set i .non, ?_, q⟩
        unfold sTryD
        rw [hb]
        simp only
        rw [hy]
        simp only
        rw [if_pos ⟨c1, c2⟩]
        refine (congrArg (endTry i) (show _ = some (SO.nx, r3) from q3)).trans ?_
        unfold endTry
        simp only
        rw [hz]
        simp only
        rw [if_pos hp]
      | ret v =>
        obtain ⟨z, hz, hp, q⟩ := q
        refine ⟨.ret v, r3.set i .non, ?_, q⟩
        unfold sTryD
        rw [hb]
        simp only
        rw [hy]
        simp only
        rw [if_pos ⟨c1, c2⟩]
        refine (congrArg (endTry i) (show _ = some (SO.ret v, r3) from q3)).trans ?_
        unfold endTry
        simp only
        rw [hz]
        simp only
        rw [if_pos hp]
      | _ => exact q.elim
    | nx => exact ⟨_, _, by unfold sTryD; rw [hb], q⟩
    | brk => exact ⟨_, _, by unfold sTryD; rw [hb], q⟩
    | cnt => exact ⟨_, _, by unfold sTryD; rw [hb], q⟩
    | ret v => exact ⟨_, _, by unfold sTryD; rw [hb], q⟩
    | rets k => exact ⟨_, _, by unfold sTryD; rw [hb], q⟩
end
section
variable {X : Exn → Ro → Prop} {r : Ro} {i : Nat}
def rowNO : RV → Option Int
  | .val (.int n) => some n
  | _ => none
@[simp] theorem rowNO_int {n : Int} : rowNO (.val (.int n)) = some n := rfl
@[simp, simp ↓] theorem W_sRaiseR {c : String} {m : M RV} {Q : SO → Ro → Prop} : W (sRaiseR c m) r Q ↔ E (fun x r => Q (.exc x) r) m r fun v r1 => optP (rowNO v) fun n => Q (.exc ⟨c, some n⟩) r1 := by
  rw [W_iff, E_iff]
  unfold sRaiseR
  cases m r with
  | none => simp
  | some z =>
    obtain ⟨o, r1⟩ := z
    cases o with
    | exc x => simp
    | ok v =>
      cases v with
      | new c => simp [rowNO]
      | val d => cases d <;> simp [rowNO]
end
end DL
end

section
namespace Lw
open PySem DL
open NumText
def digs : List Nat := (Str.ofString "0123456789").cps.toList
/-- a word of figures -/
def okW (w : Str) : Bool := decide (0 < w.length ∧ w.length ≤ 60 ∧ ¬ (w.cps.toList[0]? = some 48 ∧ 1 < w.length) ∧ ∀ c ∈ w.cps.toList, c ∈ digs)
def numI (w : Str) : Option Int := if okW w then some ((digitsVal w.cps.toList : Nat) : Int) else none
def numD (w : Str) : D := match numI w with
  | some n => .int n
  | none => .none
def numL (w : Str) : D := match numI w with
  | some n => .int n
  | none => .int (-1)
theorem numI_nn {w : Str} {n : Int} (h : numI w = some n) : 0 ≤ n := by
  unfold numI at h
  split at h
  · cases h; omega
  · cases h
/-- a text of signs, not too long -/
def TxOk (w : Str) : Prop := w.length ≤ 1000000 ∧ ∀ c ∈ w.cps.toList, c < 0x110000
theorem TxOk.st {w : Str} (h : TxOk w) : PyData.strOk w = true := by
  unfold PyData.strOk
  rw [← Array.all_toList, List.all_eq_true]
  exact fun c hc => decide_eq_true (h.2 c hc)
end Lw
end

section
namespace Lw
open PySem DL
section
def rowsT (x : Str) : List Str := Txt.split x (Str.ofString "\n")
/-- the numbers of words, if all are numbers -/
def numsI : List Str → Option (List Int)
  | [] => some []
  | w :: ws => match numI w, numsI ws with
    | some n, some ns => some (n :: ns)
    | _, _ => none
theorem numsI_some {ws : List Str} {ns : List Int} (h : numsI ws = some ns) : ws.map numD = ns.map .int ∧ ws.map numL = ns.map .int ∧ (∀ n ∈ ns, 0 ≤ n) ∧ ∀ w ∈ ws, okW w = true := by
  induction ws generalizing ns with
  | nil =>
    cases h
    refine ⟨rfl, rfl, ?_, ?_⟩ <;> simp
  | cons w ws ih =>
    unfold numsI at h
    split at h
    · rename_i n ns' h1 h2
      cases h
      obtain ⟨i1, i2, i3, i4⟩ := ih h2
      refine ⟨by rw [List.map_cons, List.map_cons, i1]; unfold numD; rw [h1], by rw [List.map_cons, List.map_cons, i2]; unfold numL; rw [h1], fun k hk => ?_, fun v hv => ?_⟩
      · rcases List.mem_cons.mp hk with rfl | hk
        · exact numI_nn h1
        · exact i3 k hk
      · rcases List.mem_cons.mp hv with rfl | hv
        · unfold numI at h1
          split at h1
          · assumption
          · cases h1
        · exact i4 v hv
    · cases h
end
end Lw
end

section
namespace Lw
open PySem DL
structure RSt where
  m : Int
  ts : List (Int × Int)
  sr : List (Int × List Int)
def lastI (s : RSt) : Int := match s.sr.getLast? with
  | some p => p.1
  | none => -1
def rowsKV (sr : List (Int × List Int)) : List (Ky × D) := sr.map fun p => ((.inl p.1 : Ky), tupZ p.2)
def rdS (s : RSt) : List (Str × Fl) := rdF s.m s.ts (rowsKV s.sr) (lastI s)
def stP (ns : List Int) (s : RSt) : Option RSt := match ns with
  | [n] => if s.m ≤ 0 ∧ 1 ≤ n ∧ n ≤ 25 then some ⟨n, s.ts, s.sr⟩ else none
  | _ => none
def stT (ns : List Int) (s : RSt) : Option RSt := match ns with
  | [a, b] => if lastI s < 0 ∧ s.ts.length ≠ 24 ∧ a < s.m ∧ b < s.m then some ⟨s.m, s.ts ++ [(a, b)], s.sr⟩ else none
  | _ => none
def stA (ns : List Int) (s : RSt) : Option RSt := match ns with
  | p :: e :: es => if lastI s < p ∧ p < s.m ∧ srtI (e :: es) = endsI s.ts p ∧ es.foldl min e = e then some ⟨s.m, s.ts, s.sr ++ [(p, e :: es)]⟩ else none
  | _ => none
section
variable {s : RSt} {ns : List Int}
def TkP (f : Sem) (g : List Int → RSt → Option RSt) (ns : List Int) (s : RSt) : Prop := Oks f [.ow (.obj "Reader" (rdS s)), .ow (.lst (ns.map .int))] fun v ys => v = .ok (.val (.bool (g ns s).isSome)) ∧ ys = [.ow (.obj "Reader" (rdS ((g ns s).getD s))), .ow (.lst (ns.map .int))]
end
end Lw
end

section
namespace Lw
open PySem DL
section
variable {s : RSt} {ns : List Int}
theorem lastI_snoc {m : Int} {ts : List (Int × Int)} {sr : List (Int × List Int)} {p : Int} {row : List Int} : lastI ⟨m, ts, sr ++ [(p, row)]⟩ = p := by
  unfold lastI
  simp
end
end Lw
end

section
namespace Lw
open PySem DL
section
variable {s : RSt}
def stepW (ws : List Str) (s : RSt) : Option RSt := match ws with
  | [] => none
  | kw :: rest => match numsI rest with
    | none => none
    | some ns => if kw = Str.ofString "places" then stP ns s else if kw = Str.ofString "tie" then stT ns s else if kw = Str.ofString "at" then stA ns s else none
end
end Lw
end

section
namespace Lw
open PySem DL
section
def st0 : RSt := ⟨0, [], []⟩
/-- what is known of a Reader behind k rows -/
structure Good (k : Nat) (s : RSt) : Prop where
  m0 : 0 ≤ s.m ∧ s.m ≤ 25
  tl : s.ts.length ≤ 24
  tb : ∀ t ∈ s.ts, 0 ≤ t.1 ∧ t.1 < s.m ∧ 0 ≤ t.2 ∧ t.2 < s.m
  pw : (s.sr.map (·.1)).Pairwise (· < ·)
  hk : ∀ q ∈ s.sr, q.1 ≤ lastI s
  rb : ∀ q ∈ s.sr, 0 ≤ q.1 ∧ q.1 < s.m ∧ q.2 ≠ [] ∧ srtI q.2 = endsI s.ts q.1
  sl : s.sr.length ≤ k
  k0 : k = 0 → s = st0
  k1 : 0 < k → 1 ≤ s.m
theorem last_none {s : RSt} (h : s.sr = []) : lastI s = -1 := by unfold lastI; rw [h]; rfl
theorem last_mem {s : RSt} (h : s.sr ≠ []) : ∃ q ∈ s.sr, lastI s = q.1 := by
  unfold lastI
  cases e : s.sr.getLast? with
  | none => exact absurd (List.getLast?_eq_none_iff.mp e) h
  | some q => exact ⟨q, List.mem_of_getLast? e, rfl⟩
theorem Good.last_neg {k : Nat} {s : RSt} (h : Good k s) : lastI s < 0 ↔ s.sr = [] := by
  constructor
  · intro hl
    cases e : s.sr with
    | nil => rfl
    | cons q l =>
      obtain ⟨p, hp, e2⟩ := last_mem (s := s) (by rw [e]; simp)
      have := (h.rb p hp).1
      omega
  · intro e; rw [last_none e]; omega
theorem Good.step {k : Nat} {s s' : RSt} {ws : List Str} (h : Good k s) (e : stepW ws s = some s') : Good (k + 1) s' := by
  unfold stepW at e
  split at e
  · cases e
  · rename_i kw rest
    split at e
    · cases e
    · rename_i ns hns
      have nn := (numsI_some hns).2.2.1
      split at e
      · -- places
        unfold stP at e
        split at e
        · rename_i n
          split at e
          · rename_i hc
            cases e
            have hk0 : k = 0 := by
              by_cases z : k = 0
              · exact z
              · have := h.k1 (by omega); omega
            have := h.k0 hk0
            subst this
            exact ⟨by simp only; omega, (by show ([] : List (Int × Int)).length ≤ 24; decide), fun t ht => (by cases ht), List.Pairwise.nil, fun q hq => (by cases hq), fun q hq => (by cases hq), Nat.zero_le _, fun z => (by omega), fun _ => hc.2.1⟩
          · cases e
        · cases e
      · split at e
        · unfold stT at e
          split at e
          · rename_i a b
            split at e
            · rename_i hc
              cases e
              obtain ⟨c1, c2, c3, c4⟩ := hc
              have hsr := h.last_neg.mp c1
              have ha := nn a List.mem_cons_self
              have hb := nn b (List.mem_cons_of_mem _ List.mem_cons_self)
              have := h.tl
              refine ⟨h.m0, by simp only [List.length_append, List.length_cons, List.length_nil]; omega, fun t ht => ?_, by rw [hsr]; exact List.Pairwise.nil, fun q hq => (by rw [hsr] at hq; cases hq), fun q hq => (by rw [hsr] at hq; cases hq), by rw [hsr]; exact Nat.zero_le _, fun z => (by omega), fun _ => (by simp only; omega)⟩
              rcases List.mem_append.mp ht with ht | ht
              · exact h.tb t ht
              · cases List.mem_singleton.mp ht; exact ⟨ha, c3, hb, c4⟩
            · cases e
          · cases e
        · split at e
          · unfold stA at e
            split at e
            · rename_i p x es
              split at e
              · rename_i hc
                cases e
                obtain ⟨c1, c2, c3, c4⟩ := hc
                have hp := nn p List.mem_cons_self
                have hl : lastI ⟨s.m, s.ts, s.sr ++ [(p, x :: es)]⟩ = p := lastI_snoc
                refine ⟨h.m0, h.tl, h.tb, ?_, fun q hq => ?_, fun q hq => ?_, by have := h.sl; simp only [List.length_append, List.length_cons, List.length_nil]; omega, fun z => (by omega), fun _ => (by simp only; omega)⟩
                · rw [List.map_append, List.pairwise_append]
                  refine ⟨h.pw, List.pairwise_singleton _ _, fun a ha b hb => ?_⟩
                  obtain ⟨q, hq, rfl⟩ := List.mem_map.mp ha
                  cases List.mem_singleton.mp hb
                  have := h.hk q hq
                  simp only; omega
                · rw [hl]
                  rcases List.mem_append.mp hq with hq | hq
                  · have := h.hk q hq; omega
                  · cases List.mem_singleton.mp hq; exact Int.le_refl _
                · rcases List.mem_append.mp hq with hq | hq
                  · exact h.rb q hq
                  · cases List.mem_singleton.mp hq; exact ⟨hp, c2, by simp, c3⟩
              · cases e
            · cases e
          · cases e
/-- the place's row -/
def rowOf (sr : List (Int × List Int)) (p : Int) : List Int := match sr.find? fun q => decide (q.1 = p) with
  | some q => q.2
  | none => []
end
end Lw
end

section
namespace Lw
open PySem DL
section
variable {s : RSt}
theorem gEq_liY {ns ms : List Int} : gEq [.fz (.list (ns.map .int)), .fz (.list (ms.map .int))] = some (.val (.bool (decide (ns = ms)))) := by
  show (if DL.okD (.list (ns.map .int)) && DL.okD (.list (ms.map .int)) then some (RV.val (.bool (PyData.eqv (.list (ns.map .int)) (.list (ms.map .int))))) else none) = _
  rw [okD_ints, okD_ints, eqv_li]
  rfl
end
end Lw
end

section
namespace Lw
open PySem DL
section
theorem min_self (e : Int) (es : List Int) : (e :: es).foldl min e = es.foldl min e := by rw [List.foldl_cons, Int.min_self]
end
end Lw
end

section
namespace Lw
open PySem DL
section
end
end Lw
end

section
namespace Lw
open PySem DL
section
end
end Lw
end

section
namespace Lw
open PySem DL
section
end
end Lw
end

section
namespace Lw
open PySem DL
section
theorem kindsR : sem_KRNoText_4390 [] = some (.ok (.new (.lst [.int 12])), []) := by kernel_rfl
theorem gEq_12 : gEq [.fz (.list [.int 12]), .fz (.list [.int 12])] = some (.val (.bool true)) := gEq_liY (ns := [12]) (ms := [12])
end
end Lw
end

section
namespace Lw
open PySem DL
section
def Rw (L : Nat) (w : Str) : Prop := w.length ≤ L ∧ PyData.strOk w = true
theorem Rw.mono {L M : Nat} {w : Str} (h : Rw L w) (hL : L ≤ M) : Rw M w := ⟨Nat.le_trans h.1 hL, h.2⟩
theorem rw_join {L k : Nat} {s : Str} {ws : List Str} (hs : Rw k s) (h : ∀ w ∈ ws, Rw L w) : Rw ((L + k) * ws.length) (Str.join s ws) := by
  refine ⟨?_, strOk_join hs.2 fun w hw => (h w hw).2⟩
  have h1 := join_len s ws
  have h2 := sum_le (n := L) fun x hx => (h x hx).1
  have h3 := Nat.mul_le_mul_left ws.length hs.1
  rw [Nat.add_mul, Nat.mul_comm k]
  omega
theorem rw_nl : Rw 1 (Str.ofString "\n") := by unfold Rw; decide +kernel
end
end Lw
end

section
namespace Lw
open PySem DL
section
def SmE (es : List Int) : Prop := es.length ≤ 60 ∧ ∀ e ∈ es, 0 ≤ e ∧ e < 100
theorem SmE.set {es : List Int} {i : Nat} {x : Int} (h : SmE es) (hx : 0 ≤ x ∧ x < 100) : SmE (es.set i x) := ⟨by rw [List.length_set]; exact h.1, fun e he => by
  rcases List.mem_or_eq_of_mem_set he with he | rfl
  · exact h.2 e he
  · exact hx⟩
end
end Lw
end

section
namespace Lw
open PySem DL
section
def LinesOk (N : Nat) (ws : List Str) : Prop := ws.length ≤ N ∧ ∀ w ∈ ws, Rw 1000 w
theorem LinesOk.snoc {N : Nat} {ws : List Str} {w : Str} (h : LinesOk N ws) (hw : Rw 1000 w) : LinesOk (N + 1) (ws ++ [w]) := ⟨by have := h.1; simp; omega, fun v hv => by
  rcases List.mem_append.mp hv with hv | hv
  · exact h.2 v hv
  · cases List.mem_singleton.mp hv; exact hw⟩
end
end Lw
end

section
namespace DL
open PySem
section
variable {X : Exn → Ro → Prop} {r : Ro} {i : Nat}
def exnO : Sl → Option (Str × Int)
  | .own _ (.exn C n) => some (C, n)
  | _ => none
@[simp] theorem exnO_o {b : Bool} {C : Str} {n : Int} : exnO (.own b (.exn C n)) = some (C, n) := rfl
@[simp, simp ↓] theorem E_mMkX {C : Str} {m : M RV} {Q : RV → Ro → Prop} : E X (mMkX C m) r Q ↔ E X m r fun v r1 => optP (rowNO v) fun n => Q (.new (.exn C n)) r1 := by
  rw [E_iff, E_iff]
  unfold mMkX
  cases m r with
  | none => simp
  | some z =>
    obtain ⟨o, r1⟩ := z
    cases o with
    | exc x => simp
    | ok v =>
      cases v with
      | new c => simp [rowNO]
      | val d => cases d <;> simp [rowNO]
@[simp, simp ↓] theorem E_mIsX {tbl : List (Str × Bool)} {Q : RV → Ro → Prop} : E X (mIsX i tbl) r Q ↔ optP (r[i]?.bind exnO) fun p => optP (tbl.lookup p.1) fun b => Q (.val (.bool b)) r := by
  rw [E_iff]
  unfold mIsX
  cases r[i]? with
  | none => simp
  | some x =>
    cases x with
    | own b c =>
      cases c with
      | exn C n => simp only [Option.bind_some, exnO_o, optP_some]; cases tbl.lookup C <;> simp
      | _ => simp [exnO]
    | _ => simp [exnO]
@[simp, simp ↓] theorem E_mRowX {C : Str} {Q : RV → Ro → Prop} : E X (mRowX i C) r Q ↔ optP (r[i]?.bind exnO) fun p => p.1 = C ∧ Q (.val (.int p.2)) r := by
  rw [E_iff]
  unfold mRowX
  cases r[i]? with
  | none => simp
  | some x =>
    cases x with
    | own b c =>
      cases c with
      | exn C' n => by_cases h : C' = C <;> simp [h]
      | _ => simp [exnO]
    | _ => simp [exnO]
@[simp, simp ↓] theorem putP_exn {i : Nat} {C : Str} {n : Int} {x : Sl} {Q : SO → Ro → Prop} : putP i (.new (.exn C n)) r Q (some x) ↔ putSl.pinnedB x = false ∧ setP r i (.own false (.exn C n)) (Q .nx) := Iff.rfl
end
end DL
end

section
namespace Lw
open PySem DL
set_option maxHeartbeats 1000000 in
theorem draw_big85 {n : Nat} {p : List D} {m : Int} (hp : Pen n p) (hn : n ≤ 1000000) (hm : 1 ≤ m ∧ m ≤ 2 ^ 200) :
    Oks sem_Ldraw_de5b [.ow (.lst p), .fz (.int m)] fun v ys => ∃ r p', v = .ok (.val (.int r)) ∧ ys = [.ow (.lst p'), .fz (.int m)] ∧ 0 ≤ r ∧ r < m ∧ Pen (n + 1) p' := by
  obtain ⟨cs, a, g, rfl, ha, hn2, hg, hcs⟩ := hp.ex
  refine oks_def rfl ?_
  have m0 : 0 < m := by omega
  have pow : (10 : Int) ^ 18 = 1000000000000000000 := by decide
  have mm : DL.SmD m := smD_of ⟨by omega, by omega⟩
  have r0 : ∀ x : Int, 0 ≤ x % m := fun x => Int.emod_nonneg _ (by omega)
  have r1 : ∀ x : Int, x % m < m := fun x => Int.emod_lt_of_pos _ m0
  by_cases hg0 : 0 < g
  · simp [b_Ldraw_de5b, hg0, -getElem?_pos, -getElem?_neg, List.getElem?_cons_zero, List.getElem?_cons_succ, m0, mm, r0, r1]
    exact ⟨cs, a, g / m, rfl, ha, by omega, Int.ediv_nonneg hg (by omega), hcs⟩
  · have s1 : SmM 69621 a := smM_of (by omega) (by omega)
    have s2 : ∀ c : Int, SmM (c % 2147483647 + 69621 * a + 13) 48271 := fun c => smM_of (by omega) (by omega)
    have key : ∀ x : Int, 0 ≤ x % 2147483629 ∧ x % 2147483629 < 2147483629 := fun x => by omega
    have s3 : ∀ x : Int, SmM (x % 2147483629) (x % 2147483629) := fun c => smM_of (by omega) (by omega)
    have s4 : ∀ x : Int, SmM 40692 (x % 2147483629) := fun c => smM_of (by omega) (by omega)
    have s5 : ∀ x : Int, SmM (x % 2147483587) 16807 := fun c => smM_of (by omega) (by omega)
    have s6 : DL.SmD 32 := smD_of (by omega)
    have pen1 : ∀ g', 0 ≤ g' → Pen (n + 1) [.list (cs.map .int), .int (a + 1), .int g'] := fun g' h => ⟨cs, a + 1, g', rfl, by omega, by omega, h, hcs⟩
    by_cases hl : 0 < cs.length
    · obtain ⟨c, hc⟩ := ixP_map (cs := cs) (i := a % cs.length) (Int.emod_nonneg _ (by omega)) (Int.emod_lt_of_pos _ (by omega))
      by_cases h2 : a < cs.length ∧ 10 ^ 18 ≤ (if c < 0 then -c else c)
      · have h2' := h2.2
        rw [pow] at h2'
        simp [b_Ldraw_de5b, hg0, -getElem?_pos, -getElem?_neg, List.getElem?_cons_zero, List.getElem?_cons_succ, m0, mm, r0, r1, s1, s2, s3, s4, s5, s6, hl, hc, h2.1, h2', pow]
        exact pen1 _ (Int.ediv_nonneg (by omega) (by omega))
      · by_cases h3 : a < cs.length
        · have h2' : ¬ 1000000000000000000 ≤ (if c < 0 then -c else c) := fun h => h2 ⟨h3, by rw [pow]; exact h⟩
          simp [b_Ldraw_de5b, hg0, -getElem?_pos, -getElem?_neg, List.getElem?_cons_zero, List.getElem?_cons_succ, m0, mm, r0, r1, s1, s2, s3, s4, s5, s6, hl, hc, h3, h2', pow]
          exact pen1 _ hg
        · simp [b_Ldraw_de5b, hg0, -getElem?_pos, -getElem?_neg, List.getElem?_cons_zero, List.getElem?_cons_succ, m0, mm, r0, r1, s1, s2, s3, s4, s5, s6, hl, hc, h3]
          exact pen1 _ hg
    · have hl2 : cs.length = 0 := by omega
      have h3 : ¬ a < 0 := by omega
      have s2' : SmM (11 + 69621 * a + 13) 48271 := smM_of (by omega) (by omega)
      simp [b_Ldraw_de5b, hg0, -getElem?_pos, -getElem?_neg, List.getElem?_cons_zero, List.getElem?_cons_succ, m0, mm, r0, r1, s1, s2, s2', s3, s4, s5, s6, hl, hl2, h3]
      exact pen1 _ hg

theorem tx_str85 {x : Str} {k w : Nat} (h : PyData.strOk x = true) (hl : x.length ≤ w) : Tx k w (.str x) := by
  refine ⟨Nat.zero_le _, rfl, ?_, hl⟩
  unfold PyData.leavesShort
  rw [List.all_eq_true]
  intro c hc
  have := (Array.all_eq_true_iff_forall_mem.mp h) c (Array.mem_toList_iff.mp hc)
  have : c < 0x110000 := by simpa using this
  have e : (16 : Nat) ^ 8 = 4294967296 := by decide
  exact decide_eq_true (by omega)
/-- a thing that is no text, and can be shown -/
structure NoT (d : D) : Prop where
  an : anyTy [.str] d = some false
  sh : (DL.shR d || DL.shS d) = true
theorem nt_list {L n : Nat} {ws : List Str} (hw : ∀ w ∈ ws, Rw L w) (hn : ws.length ≤ n) (hb : (L + 1) * n ≤ 200000) : NoT (.list (ws.map .str)) := by
  have h1 : ∀ d ∈ ws.map PyData.str, Tx 0 L d := fun d hd => by
    obtain ⟨w, hw2, rfl⟩ := List.mem_map.mp hd
    exact tx_str85 (hw w hw2).2 (hw w hw2).1
  have h2 : ∀ d ∈ ws.map PyData.str, d.canLay0 = true := fun d hd => by
    obtain ⟨w, hw2, rfl⟩ := List.mem_map.mp hd
    unfold PyData.canLay0
    exact (hw w hw2).2
  refine ⟨rfl, ?_⟩
  rw [dR_lay (tx_list h1 (by rwa [List.length_map])) (by omega) hb rfl (by unfold PyData.canLay0; exact canLayAll_mem h2)]
  rfl
theorem nt_tup {L : Nat} {T : Str} (h : Rw L T) (hb : L + 1 ≤ 200000) : NoT (.tuple [.str T]) := by
  have h1 : ∀ d ∈ [PyData.str T], Tx 0 L d := fun d hd => by
    cases List.mem_singleton.mp hd
    exact tx_str85 h.2 h.1
  have h2 : ∀ d ∈ [PyData.str T], d.canLay0 = true := fun d hd => by
    cases List.mem_singleton.mp hd
    unfold PyData.canLay0
    exact h.2
  refine ⟨rfl, ?_⟩
  rw [dR_lay (tx_tuple (n := 1) h1 (Nat.le_refl _)) (by omega) (by omega) rfl (by unfold PyData.canLay0; exact canLayAll_mem h2)]
  rfl
theorem nt_dict {L : Nat} {T : Str} (h : Rw L T) (hb : 2 * L + 2 ≤ 200000) : NoT (.dict [(.str T, .str T)]) := by
  have t1 := tx_str85 (k := 0) h.2 h.1
  have t : Tx 1 (2 * L + 2) (.dict [(.str T, .str T)]) := by
    refine ⟨by simp [PyData.depth, PyData.depthKv], rfl, ?_, ?_⟩
    · unfold PyData.leavesShort PyData.leavesShortKv PyData.leavesShortKv
      rw [t1.lea]
      rfl
    · unfold PyData.bulk PyData.bulkKv PyData.bulkKv
      have := t1.bul
      omega
  refine ⟨rfl, ?_⟩
  rw [dR_layT t (by omega) hb rfl (by
    show (layT (.str T) && layT (.str T) && true) = true
    unfold layT
    rw [h.2]
    rfl)]
  rfl
theorem nt_int {i : Int} (h : -(2 ^ 200) ≤ i ∧ i ≤ 2 ^ 200) : NoT (.int i) := by
  refine ⟨rfl, ?_⟩
  have : DL.shS (.int i) = true := by
    show decide (i.natAbs.log2 < 1920) = true
    refine decide_eq_true ?_
    by_cases h0 : i.natAbs = 0
    · rw [h0]; decide
    · have h1 : i.natAbs ≤ 2 ^ 200 := by omega
      exact (Nat.log2_lt h0).mpr (Nat.lt_of_le_of_lt h1 (Nat.pow_lt_pow_right (by omega) (by omega)))
  rw [this, Bool.or_true]
theorem tx_i85 {i : Int} (h : -1000 ≤ i ∧ i ≤ 1000) {k w : Nat} : Tx k w (.int i) := tx_int (Nat.lt_of_le_of_lt (m := 1000) (by omega) (by decide))
theorem nt_flo {m : Int} {ts : List (Int × Int)} {rows : List (List Int)} (ho : OrdN m ts (2 * ts.length) rows) (ht : TiesOk m ts) (hm : 1 ≤ m ∧ m ≤ 25) (hl : ts.length ≤ 24) : NoT (floorD m ts rows) ∧ TpD 4 (floorD m ts rows) := by
  have e1 : ∀ t ∈ ts, Tx 1 4 (tieD t) ∧ (tieD t).canLay0 = true := fun t h => by
    have := ht t h
    exact ⟨(tx_tuple (k := 0) (w := 0) (n := 2) (fun d hd => by
      rcases List.mem_cons.mp hd with rfl | hd
      · exact tx_i85 (by omega)
      · cases List.mem_singleton.mp hd; exact tx_i85 (by omega)) (Nat.le_refl _)).le (by omega) (by omega), rfl⟩
  have e2 : Tx 2 120 (.tuple (ts.map tieD)) := (tx_tuple (k := 1) (w := 4) (n := 24) (fun d hd => by
    obtain ⟨t, h, rfl⟩ := List.mem_map.mp hd
    exact (e1 t h).1) (by rwa [List.length_map])).le (by omega) (by omega)
  have e2c : PyData.canLay0 (.tuple (ts.map tieD)) = true := by
    unfold PyData.canLay0
    exact canLayAll_mem fun d hd => by
      obtain ⟨t, h, rfl⟩ := List.mem_map.mp hd
      exact (e1 t h).2
  have e3 : Tx 3 250 (webD m ts) := (tx_tuple (k := 2) (w := 120) (n := 2) (fun d hd => by
    rcases List.mem_cons.mp hd with rfl | hd
    · exact tx_i85 (by omega)
    · cases List.mem_singleton.mp hd; exact e2) (Nat.le_refl _)).le (by omega) (by omega)
  have e3c : PyData.canLay0 (webD m ts) = true := by
    show (PyData.canLay0 (.int m) && (PyData.canLay0 (.tuple (ts.map tieD)) && true)) = true
    rw [e2c]; rfl
  have e4 : ∀ d ∈ rows.map (fun row => PyData.tuple (row.map PyData.int)), Tx 1 48 d ∧ d.canLay0 = true := fun d hd => by
    obtain ⟨row, hr, rfl⟩ := List.mem_map.mp hd
    obtain ⟨q, hq⟩ := List.mem_iff_getElem?.mp hr
    have hrow := ho.row q row hq
    refine ⟨(tx_tuple (k := 0) (w := 0) (n := 48) (fun d hd => ?_) (by rw [List.length_map]; have := hrow.len; omega)).le (by omega) (by omega), ?_⟩
    · obtain ⟨e, he, rfl⟩ := List.mem_map.mp hd
      have := (hrow.mem e).mp he
      exact tx_i85 (by omega)
    · unfold PyData.canLay0
      exact canLayAll_mem fun d hd => by
        obtain ⟨e, he, rfl⟩ := List.mem_map.mp hd
        rfl
  have e5 : Tx 2 1300 (orderD rows) := (tx_tuple (k := 1) (w := 48) (n := 25) (fun d hd => (e4 d hd).1) (by rw [List.length_map, ho.len]; omega)).le (by omega) (by omega)
  have e5c : PyData.canLay0 (orderD rows) = true := by
    unfold orderD PyData.canLay0
    exact canLayAll_mem fun d hd => (e4 d hd).2
  have e6 : Tx 4 3000 (floorD m ts rows) := (tx_tuple (k := 3) (w := 1300) (n := 2) (fun d hd => by
    rcases List.mem_cons.mp hd with rfl | hd
    · exact e3.le (by omega) (by omega)
    · cases List.mem_singleton.mp hd; exact e5.le (by omega) (by omega)) (Nat.le_refl _)).le (by omega) (by omega)
  have e6c : PyData.canLay0 (floorD m ts rows) = true := by
    show (PyData.canLay0 (webD m ts) && (PyData.canLay0 (orderD rows) && true)) = true
    rw [e3c, e5c]; rfl
  refine ⟨⟨rfl, by rw [dR_lay e6 (by omega) (by omega) rfl e6c]; rfl⟩, ?_⟩
  refine ⟨by simp, fun d hd => ?_⟩
  rcases List.mem_cons.mp hd with rfl | hd
  · exact web_tp (by omega)
  · cases List.mem_singleton.mp hd
    refine ⟨by have := ho.len; simp; omega, fun d hd => ?_⟩
    obtain ⟨row, hr, rfl⟩ := List.mem_map.mp hd
    obtain ⟨q, hq⟩ := List.mem_iff_getElem?.mp hr
    have := (ho.row q row hq).len
    refine ⟨by simp; omega, fun d hd => ?_⟩
    obtain ⟨n, _, rfl⟩ := List.mem_map.mp hd
    trivial
theorem read_no {d : D} (h : NoT d) : Oks sem_read_4cf3R [.fz d] fun v ys => v = .exc ⟨"NoText", some 1⟩ ∧ ys = [.fz d] := by
  have an := h.an
  refine oks_def rfl ?_
  simp [-getElem?_pos, -List.getD_eq_getElem?_getD, -getElem?_neg, List.getElem?_cons_zero, List.getElem?_cons_succ, b_read_4cf3R, an]
theorem lread_no {d : D} (h : NoT d) : Oks sem_Lread_4f6eR [.fz d] fun v ys => v = .ok (.new (.lst [.int 1])) ∧ ys = [.fz d] := by
  obtain ⟨_, _, e, rfl, rfl⟩ := read_no h
  have gl1 : ∀ x : D, gLst [.fz x] = some (.new (.lst [x])) := fun _ => rfl
  have g12 := gEq_12
  have g12b : gEq [.ow (.lst [.int 12]), .ow (.lst [.int 12])] = some (.val (.bool true)) := gEq_12
  have kr := kindsR
  refine oks_def rfl ?_
  simp [-getElem?_pos, -List.getD_eq_getElem?_getD, -getElem?_neg, List.getElem?_cons_zero, List.getElem?_cons_succ, b_Lread_4f6eR, e, kr, gl1, g12, g12b]
theorem kinds_own (n : Int) : sem_Lkinds_aa30 [.ow (.exn "NoText" n)] = some (.ok (.new (.lst [.int 12])), [.ow (.exn "NoText" n)]) := by kernel_rfl
section
variable {m : Int} {ts : List (Int × Int)} {rows : List (List Int)}
set_option maxHeartbeats 8000000 in
theorem read_good (ho : OrdN m ts (2 * ts.length) rows) (ht : TiesOk m ts) (hm : 1 ≤ m ∧ m ≤ 25) (hl : ts.length ≤ 24) : Oks sem_read_4cf3R [.fz (.str (txtV m ts rows))] fun v ys => v = .ok (.val (floorD m ts rows)) ∧ ys = [.fz (.str (txtV m ts rows))] := by
  have lb : (lineD : Nat) = 16777216 := rfl
  obtain ⟨l1, l2⟩ := lns_ok (flt_of hm hl ht ho)
  obtain ⟨_, _, ei, rfl, rfl⟩ := rd_init
  have sp : Txt.split (txtV m ts rows) (Str.ofString "\n") = lns m ts rows := by
    unfold txtV
    refine text_split (by unfold lns; simp) fun l hl => ?_
    unfold lns at hl
    rcases List.mem_append.mp hl with hl | hl
    · rcases List.mem_cons.mp hl with rfl | hl
      · rw [lnP_words]
        exact line_free (ws := [Str.ofString "places", sI m]) fun w hw => by
          rcases List.mem_cons.mp hw with rfl | hw
          · exact kw_plain.1
          · cases List.mem_singleton.mp hw; exact sI_plain _
      · obtain ⟨t, _, rfl⟩ := List.mem_map.mp hl
        rw [lnT_words]
        exact line_free (ws := [Str.ofString "tie", sI t.1, sI t.2]) fun w hw => by
          rcases List.mem_cons.mp hw with rfl | hw
          · exact kw_plain.2.1
          · rcases List.mem_cons.mp hw with rfl | hw
            · exact sI_plain _
            · cases List.mem_singleton.mp hw; exact sI_plain _
    · unfold lnsA at hl
      obtain ⟨q, _, rfl⟩ := List.mem_map.mp hl
      exact line_free (ws := Str.ofString "at" :: sI q :: (rows.getD q []).map sI) fun w hw => by
        rcases List.mem_cons.mp hw with rfl | hw
        · exact kw_plain.2.2
        · rcases List.mem_cons.mp hw with rfl | hw
          · exact sI_plain _
          · obtain ⟨n, _, rfl⟩ := List.mem_map.mp hw; exact sI_plain _
  have s0 : ((Str.ofString "\n").length == 0) = false := by decide +kernel
  have lx : (txtV m ts rows).length + 2 ≤ lineD := by
    have h1 := join_len (Str.ofString "\n") (lns m ts rows)
    have h2 := sum_le (n := 1000) fun x hx => (l1 x hx).len
    have h3 : (Str.ofString "\n").length = 1 := by decide +kernel
    rw [h3] at h1
    unfold txtV
    omega
  have an : anyTy [Ty.str] (PyData.str (txtV m ts rows)) = some true := rfl
  have o1 : -4611686018427387904 ≤ ((lns m ts rows).length : Int) := by omega
  have o2 : ((lns m ts rows).length : Int) < 4611686018427387904 := by omega
  obtain ⟨T, hT⟩ : ∃ T, T = txtV m ts rows := ⟨_, rfl⟩
  rw [← hT] at sp lx an ⊢
  have sp2 : (Txt.split T (Str.ofString "\n")).map PyData.str = (lns m ts rows).map PyData.str := by rw [sp]
  obtain ⟨Ls, hLs⟩ : ∃ Ls, Ls = (lns m ts rows).map PyData.str := ⟨_, rfl⟩
  rw [← hLs] at sp2
  have hLl : Ls.length = (lns m ts rows).length := by rw [hLs, List.length_map]
  rw [← hLl] at o1 o2
  refine oks_def rfl ?_
  simp [-getElem?_pos, -getElem?_neg, List.getElem?_cons_zero, List.getElem?_cons_succ, b_read_4cf3R, ei, s0, lx, sp2, o1, o2, an]
  refine forS_inv (RdI T m ts rows) (rng 0 (Ls.length : Int)) 0 _ ?_ (fun k d r hd h => ?_) (fun r h => ?_)
  · exact ⟨_, _, _, _, _, by rw [hLs], .a, .non⟩
  · obtain ⟨rfl, hk⟩ := rng0_get hd
    rw [Nat.zero_add] at h ⊢
    obtain ⟨m1, t1, r1, l1', x3, rfl, hS, h3⟩ := h
    obtain ⟨kw, nums, m2, t2, r2, l2', gl, tk, hn, hnl, hS2⟩ := hS.step ho ht hm hl (by omega)
    have hx := (l1 _ (List.mem_of_getElem? gl)).len
    obtain ⟨_, _, e, rfl, rfl⟩ := rd_takes tk hn hnl hx
    have ix : ixP Ls (k : Int) = some (.str (lineW (kw :: nums.map sI))) := ixP_nat (by rw [hLs, List.getElem?_map, gl]; rfl)
    rw [← hLs]
    simp [-getElem?_pos, -getElem?_neg, List.getElem?_cons_zero, List.getElem?_cons_succ, h3.pin, h3.al, rd_m2, ix, e]
    exact ⟨_, _, _, _, _, by rw [hLs], hS2, .frz⟩
  · rw [Nat.zero_add, rng0_len, Int.toNat_natCast, hLl] at h
    obtain ⟨m1, t1, r1, l1', x3, rfl, hS, h3⟩ := h
    obtain ⟨rfl, rfl, rfl⟩ := hS.fin hm.1
    obtain ⟨_, _, e1, rfl, rfl⟩ := rd_done (last := l1') ho hm hl
    obtain ⟨_, _, e2, rfl, rfl⟩ := rd_floor (last := l1') ho hm hl
    simp [-getElem?_pos, -getElem?_neg, List.getElem?_cons_zero, List.getElem?_cons_succ, h3.pin, h3.al, rd_m6, rd_m7, e1, e2, floorD]
end
end Lw
end

section
namespace Lw
open PySem DL
section
variable {m : Int} {ts : List (Int × Int)} {rows : List (List Int)}
theorem txt_rows : rowsT (txtV m ts rows) = lns m ts rows := by
  unfold rowsT txtV
  refine text_split (by unfold lns; simp) fun l hl => ?_
  unfold lns at hl
  rcases List.mem_append.mp hl with hl | hl
  · rcases List.mem_cons.mp hl with rfl | hl
    · rw [lnP_words]
      exact line_free (ws := [Str.ofString "places", sI m]) fun w hw => by
        rcases List.mem_cons.mp hw with rfl | hw
        · exact kw_plain.1
        · cases List.mem_singleton.mp hw; exact sI_plain _
    · obtain ⟨t, _, rfl⟩ := List.mem_map.mp hl
      rw [lnT_words]
      exact line_free (ws := [Str.ofString "tie", sI t.1, sI t.2]) fun w hw => by
        rcases List.mem_cons.mp hw with rfl | hw
        · exact kw_plain.2.1
        · rcases List.mem_cons.mp hw with rfl | hw
          · exact sI_plain _
          · cases List.mem_singleton.mp hw; exact sI_plain _
  · unfold lnsA at hl
    obtain ⟨q, _, rfl⟩ := List.mem_map.mp hl
    exact line_free (ws := Str.ofString "at" :: sI q :: (rows.getD q []).map sI) fun w hw => by
      rcases List.mem_cons.mp hw with rfl | hw
      · exact kw_plain.2.2
      · rcases List.mem_cons.mp hw with rfl | hw
        · exact sI_plain _
        · obtain ⟨n, _, rfl⟩ := List.mem_map.mp hw; exact sI_plain _
end
def L85I (ns : List Int) (W FD : D) (T : Str) (L : List D) (k : Nat) (r : Ro) : Prop := ∃ (p : List D) (x6 x9 x10 x11 : Sl), r = [.frz false (.dict ((.none, .none) :: ns.map fun n => (.int n, .none))), .own false (.lst p), .frz false W, .frz false FD, .frz false (.str T), .own false (.lst L), x6, .non, .non, x9, x10, x11] ∧ Pen (5000 + 10 * k) p ∧ Fr x6 ∧ Fr x9 ∧ Fr x10 ∧ Fr x11
theorem pick85 {FD : D} {T : Str} {ls : List Str} {X c : Int} (nf : NoT FD) (hT : Rw 60000 T) (hl : ∀ w ∈ ls, Rw 1000 w) (hn : ls.length ≤ 60) (hX : 0 ≤ X ∧ X < 1000000000000000000000000000000000000000000000000000000000000) (hc : 0 ≤ c ∧ c < 14) :
    ∃ d, ixP ([.none, .bool true, .bool false, .int 0, .int (-1), .int X, .list [.str T], .tuple [.str T], .list (ls.map .str), .dict [], .dict [(.str T, .str T)], FD, .list [], .tuple []] : List D) c = some d ∧ NoT d := by
  have : c = 0 ∨ c = 1 ∨ c = 2 ∨ c = 3 ∨ c = 4 ∨ c = 5 ∨ c = 6 ∨ c = 7 ∨ c = 8 ∨ c = 9 ∨ c = 10 ∨ c = 11 ∨ c = 12 ∨ c = 13 := by omega
  rcases this with rfl | rfl | rfl | rfl | rfl | rfl | rfl | rfl | rfl | rfl | rfl | rfl | rfl | rfl
  · exact ⟨_, rfl, rfl, rfl⟩
  · exact ⟨_, rfl, rfl, rfl⟩
  · exact ⟨_, rfl, rfl, rfl⟩
  · exact ⟨_, rfl, nt_int (by decide)⟩
  · exact ⟨_, rfl, nt_int (by decide)⟩
  · exact ⟨_, rfl, nt_int (by omega)⟩
  · exact ⟨_, rfl, nt_list (L := 60000) (n := 1) (ws := [T]) (fun w hw => by cases List.mem_singleton.mp hw; exact hT) (Nat.le_refl _) (by omega)⟩
  · exact ⟨_, rfl, nt_tup hT (by omega)⟩
  · exact ⟨_, rfl, nt_list (L := 1000) (n := 60) hl hn (by omega)⟩
  · exact ⟨_, rfl, rfl, by decide +kernel⟩
  · exact ⟨_, rfl, nt_dict hT (by omega)⟩
  · exact ⟨_, rfl, nf⟩
  · exact ⟨_, rfl, rfl, by decide +kernel⟩
  · exact ⟨_, rfl, rfl, by decide +kernel⟩
set_option maxHeartbeats 16000000 in
theorem law85_ok (ns : List Int) (h : ns.length ≤ 63) : Oks sem_law_9135R [.fz (.dict ((.none, .none) :: ns.map fun n => (.int n, .none)))] fun v ys => v = .ok (.val (.bool true)) ∧ ys.length = 1 := by
  have lb : (lineD : Nat) = 16777216 := rfl
  obtain ⟨_, _, e1, p, rfl, rfl, hp⟩ := pen_ok h
  obtain ⟨_, _, e2, m, ts, p2, rfl, rfl, hw, hp2⟩ := web_ok hp (by omega) (pl := 25) (ti := 24) (by omega) (by omega)
  have hm : 1 ≤ m ∧ m ≤ 25 := ⟨hw.m1, hw.mN⟩
  have hl : ts.length ≤ 24 := hw.len
  obtain ⟨_, _, e3, rows, p3, rfl, rfl, ho, hp3⟩ := order_ok (m := m) (ts := ts) hp2 (by omega) (by omega) (by omega) hw.ok
  have hf := flt_of hm hl hw.ok ho
  obtain ⟨_, _, e4, rfl, rfl⟩ := Ltext_ok hf
  obtain ⟨_, _, e5, X, p5, rfl, rfl, x0, x1, hp5⟩ := draw_big85 hp3 (by omega) (m := 1000000000000000000000000000000000000000000000000000000000000) (by omega)
  obtain ⟨_, _, e6, c, p6, rfl, rfl, ca, cb, hp6⟩ := draw_ok (m := 12) hp5 (by omega) (by omega)
  obtain ⟨_, _, eR, rfl, rfl⟩ := read_good ho hw.ok hm hl
  obtain ⟨ntF, tpF⟩ := nt_flo ho hw.ok hm hl
  have sm := same3_refl 4 1 _ tpF
  obtain ⟨l1, l2⟩ := lns_ok hf
  have l3 : ∀ x ∈ lns m ts rows, Rw 1000 x := fun x hx => ⟨(l1 x hx).len, (l1 x hx).ok⟩
  have rT : Rw 60000 (txtV m ts rows) := (rw_join rw_nl l3).mono (by omega)
  have tr := txt_rows (m := m) (ts := ts) (rows := rows)
  have lT : (txtV m ts rows).length + 2 ≤ lineD := by have := rT.1; omega
  have s0 : ((Str.ofString "\n").length == 0) = false := by decide +kernel
  have sp : (Txt.split (txtV m ts rows) (Str.ofString "\n")).map PyData.str = (lns m ts rows).map .str := by rw [← tr]; rfl
  have o1 : -4611686018427387904 ≤ 1 + c := by omega
  have o2 : 1 + c < 4611686018427387904 := by omega
  have f0 : gIx [.fz (floorD m ts rows), .fz (.int 0)] = some (.val (webD m ts)) := rfl
  have f1 : gIx [.fz (floorD m ts rows), .fz (.int 1)] = some (.val (orderD rows)) := rfl
  have gt : gTup [.fz (webD m ts), .fz (orderD rows)] = some (.val (floorD m ts rows)) := rfl
  have gl11 : ∀ a b c d e f g h i j k : D, gLst [.fz a, .fz b, .fz c, .fz d, .fz e, .fz f, .fz g, .fz h, .fz i, .fz j, .fz k] = some (.new (.lst [a, b, c, d, e, f, g, h, i, j, k])) := fun _ _ _ _ _ _ _ _ _ _ _ => rfl
  have gl3 : ∀ a b c : D, gLst [.fz a, .fz b, .fz c] = some (.new (.lst [a, b, c])) := fun _ _ _ => rfl
  have gl1 : ∀ x : D, gLst [.fz x] = some (.new (.lst [x])) := fun _ => rfl
  have gl0 : gLst [] = some (.new (.lst [])) := rfl
  have gu1 : ∀ x : D, gTup [.fz x] = some (.val (.tuple [x])) := fun _ => rfl
  have gu0 : gTup [] = some (.val (.tuple ([] : List D))) := rfl
  have ne1 : gNe [.ow (.lst [.int 1]), .fz (.list [.int 1])] = some (.val (.bool false)) := by
    show (if DL.okD (.list (([1] : List Int).map .int)) && DL.okD (.list (([1] : List Int).map .int)) then some (RV.val (.bool (!PyData.eqv (.list (([1] : List Int).map .int)) (.list (([1] : List Int).map .int))))) else none) = _
    rw [okD_ints, eqv_li]
    rfl
  have gi1 : gIx [.ow (.lst [.int 1]), .fz (.int 0)] = some (.val (.int 1)) := rfl
  obtain ⟨_, _, ew, rfl, rfl⟩ := whole_ok (n := 1)
  have g12 := gEq_12
  have ga : ∀ (L : List D) (a b c : D), L.length = 11 → gAdd [.ow (.lst L), .fz (.list [a, b, c])] = some (.new (.lst (L ++ [a, b, c]))) := fun L a b c hL => by
    show (if L.length + 3 ≤ lineD then some (RV.new (.lst (L ++ [a, b, c]))) else none) = _
    rw [if_pos (by omega)]
  have pk := fun {c : Int} => pick85 (X := X) (c := c) ntF rT l3 (by omega) ⟨x0, x1⟩
  generalize txtV m ts rows = T at *
  generalize lns m ts rows = Ls at *
  generalize Ls.map PyData.str = LD at *
  generalize floorD m ts rows = FD at *
  have kD1 : kD (Sum.inr T) = PyData.str T := rfl
  have on1 : oneI [(PyData.str T, PyData.str T)] = true := rfl
  refine oks_def rfl ?_
  simp [-getElem?_pos, -List.getD_eq_getElem?_getD, -getElem?_neg, List.getElem?_cons_zero, List.getElem?_cons_succ, kD1, on1, b_law_9135R, e1, e2, e3, e4, e5, e6, o1, o2, f0, f1, gt, gl11, gl1, gu1, s0, lT, sp]
  obtain ⟨L, hL⟩ : ∃ L : List D, L = [.none, .bool true, .bool false, .int 0, .int (-1), .int X, .list [.str T], .tuple [.str T], .list LD, .dict [], .dict [(.str T, .str T)]] := ⟨_, rfl⟩
  rw [← hL]
  refine forS_inv (L85I ns (webD m ts) FD T L) (rng 0 (1 + c)) 0 _ ?_ (fun k d r hd h => ?_) (fun r h => ?_)
  · exact ⟨p6, _, _, _, _, rfl, pen_mono (by omega) hp6, .non, .non, .non, .non⟩
  · obtain ⟨rfl, hk⟩ := rng0_get hd
    rw [Nat.zero_add] at h ⊢
    obtain ⟨q, x6, x9, x10, x11, rfl, hq, f6, f9, f10, f11⟩ := h
    obtain ⟨_, _, g1, i, q1, rfl, rfl, ia, ib, hq1⟩ := draw_ok (m := 14) hq (by omega) (by omega)
    obtain ⟨d, ix, nd⟩ := pk (c := i) ⟨ia, ib⟩
    have ix : ixP (L ++ [FD, .list [], .tuple []]) i = some d := by rw [hL]; exact ix
    obtain ⟨_, _, r1, rfl, rfl⟩ := lread_no nd
    have rp := gReprT_fz nd.sh
    have ga := ga L FD (.list []) (.tuple []) (by rw [hL]; rfl)
    simp [-getElem?_pos, -List.getD_eq_getElem?_getD, -getElem?_neg, List.getElem?_cons_zero, List.getElem?_cons_succ, f6.pin, f6.al, f9.pin, f9.al, f10.pin, f10.al, f11.pin, f11.al, g1, gl0, gl1, gl3, gu0, ga, ix, rp, r1, ne1, gi1, ew, eR, sm]
    exact ⟨q1, _, _, _, _, rfl, pen_mono (by omega) hq1, .frz, .frz, .frz, .lst⟩
  · rw [Nat.zero_add, rng0_len] at h
    obtain ⟨q, x6, x9, x10, x11, rfl, hq, f6, f9, f10, f11⟩ := h
    obtain ⟨_, _, g1, n, q1, rfl, rfl, na, nb, hq1⟩ := draw_ok (m := 2000) hq (by omega) (by omega)
    have kd := kinds_own (1 + n)
    simp [-getElem?_pos, -List.getD_eq_getElem?_getD, -getElem?_neg, List.getElem?_cons_zero, List.getElem?_cons_succ, f6.pin, f6.al, f9.pin, f9.al, f10.pin, f10.al, f11.pin, f11.al, g1, gl1, kd, g12]
end Lw
end

section
set_option maxHeartbeats 2000000
namespace DL
open PySem PySem.Spec PySem.Calls PyProof.Rows L2
section
variable {fs ex : List Addr} {H0 H : Hp} {hp h : Heap} {dd : Addr} {vs : List (Str × V)}
theorem exd_ne {o : HO} : (∀ p, o ≠ .ext p) → exd dd vs ≠ o := fun h z => h _ z.symm
theorem un_xd (un : Un fs ex H0 H hp h) (e : H dd = some (exd dd vs)) : Un fs ex H0 (upd H dd (.xd vs)) hp h where
  keep := un.keep
  slot := un.slot
  free := fun b o z n hx => by
    have y := un.free b o z n hx
    by_cases q : b = dd
    · rw [q, e] at y; cases y
    · rw [upd_ne q]; exact y
  there := un.there
  tups := fun b xs z => by
    have y := un.tups b xs z
    by_cases q : b = dd
    · rw [q, e] at y; exact absurd (Option.some.inj y) (exd_ne fun p z => by cases z)
    · rw [upd_ne q]; exact y
  frzs := fun b o u z => by
    have y := un.frzs b o u z
    by_cases q : b = dd
    · rw [q, e] at y; exact absurd (Option.some.inj y) (exd_ne fun p z => by cases z)
    · rw [upd_ne q]; exact y
  tbls := fun b ps z => by
    obtain ⟨m, y⟩ := un.tbls b ps z
    refine ⟨m, ?_⟩
    by_cases q : b = dd
    · rw [q, e] at y; exact absurd (Option.some.inj y) (exd_ne fun p z => by cases z)
    · rw [upd_ne q]; exact y
theorem hok_xd {P : Program} {w : World} (hok : HOk P w H h) (e : H dd = some (exd dd vs)) : HOk P w (upd H dd (.xd vs)) h := fun b o z => by
  by_cases q : b = dd
  · rw [q, upd_same] at z
    cases z
    obtain ⟨mA, hns, rel⟩ := exd_at hok e
    rw [q]
    exact ⟨mA, hns, rel⟩
  · rw [upd_ne q] at z
    exact (hok b o z).stay (fun c v hc z => z) (fun c hc => by
      rw [upd_ne (fun y => by rw [y, e] at hc; exact exd_own (Option.some.inj hc))]; exact hc) (fun c xs hc => by
      rw [upd_ne (fun y => by rw [y, e] at hc; exact exd_tup (Option.some.inj hc))]; exact hc)
end
theorem inv_xd {X : Cx} {pins : List (Addr × Obj)} {σ : L2.St} {H : Hp} {s : Shared} {dd : Addr} {vs : List (Str × V)} (I : Inv X pins σ H s) (e : H dd = some (exd dd vs)) : Inv X pins σ (upd H dd (.xd vs)) s :=
  ⟨I.ok, I.os, I.bare, un_xd I.base e, I.loc, I.cell, by
    have := I.free
    rw [upd_ne (fun z => by rw [z, e] at this; cases this)]; exact this, fun x c z => by
    have := I.freeC x c z
    rw [upd_ne (fun z => by rw [z, e] at this; cases this)]; exact this, fun p hp => by
    obtain ⟨h1, h2, h3⟩ := I.pin p hp
    exact ⟨h1, by rw [upd_ne (fun z => by rw [z, e] at h2; cases h2)]; exact h2, h3⟩, hok_xd I.hok e, I.len⟩
section
variable {X : Cx} {W : WX}
/-- C(e, ..) as a value -/
theorem pe_mkX {CX : CXT} {x : Str} {e : Expr} {es : List Expr} {ta : TA} {p pos : Pos} {C fI : Addr} {k : Nat} {fd : FuncData} {ps : List Str} {sp : Sp} (T : OexC X.K C) (iC : PySem.W.findIn X.K (.ref C) "__init__" = some (some (.ref fI))) (tI : PySem.W.typeIn X.K (.ref fI) = some (.type "function"))
    (F : FnOk X.prog X.w X.K X.mg X.base CX k fI fd ps sp) (hr : Room (k + 1) X.A) (hb : Binds X.K fd ps []) (hx : Passes CX X (fun _ _ _ => False)) (hg : Gl X x) (hm : X.mg x = some (.ref C)) (ha : PA X (e :: es) ta)
    (hdb : (x == ("__debug__" : Str)) = false := by decide) (he : starEach (e :: es) X.env = (false, eval e X.env) :: starEach es X.env := by rfl) (hpl : (backTo pos (starEach es X.env)).any (·.1) = false := by rfl) :
    PE X (.Call (.Name x p) (e :: es) [] pos) (fun σ H Q => ta σ H fun vs H1 => vs.length ≤ 1000 ∧ ∀ a, H1 a = none → sp (.ref a :: (vs ++ [])) (upd H1 a (exo a C none)) (fun v H2 => v = .non ∧ ∃ (d : Addr) (fs : List (Str × V)), H2 d = some (exd d fs) ∧ Q (.ref a) (upd H2 d (.xd fs))) (fun _ _ _ => False)) := by
  refine ⟨fun pins s σ H Q I h => ?_⟩
  obtain ⟨_, _, _, _, bm, _, _, _, _, _, _, _, _, _, _, hC, hbm⟩ := T.cls
  refine wpAny_Call_Name_kw (ld_glob I hg hm ?_ hdb)
  refine PySem.W.callWith_K (h₀ := X.base) I.ok.mod.kin T.kC (thn (ha.run pos pins s σ H _ I h) fun us s1 ⟨vs, H1, I1, r1, hz, q1⟩ => ⟨I1.kIn, ?_⟩) he hpl
  show wpAny _ _ (call (.ref C) us) _ _ _
  obtain ⟨hp, g, dr, tk, os⟩ := s1
  obtain ⟨a, ea⟩ : ∃ a, a = hp.objs.size + 1 := ⟨_, rfl⟩
  obtain ⟨h3, eh⟩ : ∃ h3, h3 = (hp.push (PySem.W.kdv_tup us)).push (PySem.HandSPX.excO C hp.objs.size) := ⟨_, rfl⟩
  have old : ∀ b o, hp.get? b = some o → h3.get? b = some o := fun b o z => by rw [eh]; exact Heap.get?_push_of_some _ (Heap.get?_push_of_some _ z)
  have there : h3.get? a = some (PySem.HandSPX.excO C hp.objs.size) := by rw [eh, ea]; heap_get
  have le : hp.objs.size ≤ a := by omega
  have I2 : Inv X pins σ (upd H1 a (exo a C none)) ⟨h3, g, dr, tk, os⟩ := I1.laid (t' := tk) (a := a) (o := exo a C none) (h' := h3) old le (exo_ok there)
  have q2 := q1 a (I1.hok.fresh le)
  rw [List.append_nil] at q2
  have r2 : Vals (V.ref a :: vs) (Value.ref a :: us) := .cons rfl r1
  have len : (Value.ref a :: us ++ []).length = ps.length := by
    have z := r2.length
    rw [F.len _ _ _ _ q2] at z
    rw [List.append_nil]
    exact z.symm
  have few : us.length ≤ sizeLine := by
    rw [← Paired.length r1, sizeLine_eq]
    omega
  have bnd := hb _ (Value.ref a :: us) I2.kIn len
  rw [List.append_nil] at bnd
  subst eh ea
  refine wpAny_call (PySem.HandSPX.call_own PySem.F.excBase_ValueError (fun Y => PySem.HandSPX.refsVE_contains Y bm hbm) (I1.kIn _ _ hC) (PySem.W.looks_findIn I1.kIn iC) (fun self => PySem.W.bind_fn I1.kIn self tI) few
    (codeAny_mono (F.run _ X.stack _ _ ⟨Value.ref _ :: us, []⟩ (Value.ref _ :: us) _ _ (fun _ _ _ => False) (hr.make C us []) (I2.env0.make C us []) bnd r2 q2) fun r s' hq => ?_))
  cases r with
  | error er => exact hx pins σ _ _ er s' I2 hq
  | ok fl =>
    cases fl with
    | ret u =>
      obtain ⟨v, H2, I3, rv, ev, d, fs, e2, q3⟩ := I2.after hq
      subst ev
      exact ⟨rv, .ref (hp.objs.size + 1), _, inv_xd I3 e2, rfl, q3⟩
    | next => exact False.elim hq
    | brk => exact False.elim hq
    | cont => exact False.elim hq
theorem mk_end {H : Hp} {a dx C : Addr} {fs : List (Str × V)} (hne : dx ≠ a) :
    upd (upd (upd (upd H a (exo a C none)) dx (exd dx fs)) a (exo a C (some dx))) dx (.xd fs) = upd (upd H dx (.xd fs)) a (exo a C (some dx)) := by
  funext b
  by_cases h : b = dx
  · rw [h, upd_same, upd_ne hne, upd_same]
  · rw [upd_ne h]
    by_cases h2 : b = a
    · rw [h2, upd_same, upd_same]
    · rw [upd_ne h2, upd_ne h, upd_ne h2, upd_ne h2, upd_ne h]
theorem de_mkX {cls : String} {e : Expr} {m : M RV} {C : Addr} {p pos : Pos} (R : RowE X.prog X.w X.K X.mg X.base cls C) (hn : PySem.W.nsIn X.K mainGlobals (Str.ofString cls) = some (some (.ref C))) (hr : Room 2 X.A) (hg : Gl X (Str.ofString cls)) (he : DE X W e m)
    (hdb : (Str.ofString cls == ("__debug__" : Str)) = false := by decide) (hs : starEach [e] X.env = (false, eval e X.env) :: starEach [] X.env := by rfl) (hpl : (backTo pos (starEach [] X.env)).any (·.1) = false := by rfl) :
    DE X W (.Call (.Name (Str.ofString cls) p) [e] [] pos) (mMkX (Str.ofString cls) m) := by
  obtain ⟨fI, fd, ps, T, F, B0⟩ := R.ex
  refine pe_weak (pe_mkX T.T T.iC T.tI F hr B0 (fun _ _ _ _ _ _ _ h => h.elim) hg R.gC (pa_cons he pa_nil hs) hdb hs hpl) fun σ H Q ⟨B, r, O, c, o, r', e', p⟩ => ?_
  unfold mMkX at e'
  refine ⟨B, r, O, c, ?_⟩
  cases q : m r with
  | none => rw [q] at e'; cases e'
  | some z =>
    obtain ⟨o1, r1⟩ := z
    rw [q] at e'
    refine ⟨o1, r1, rfl, ?_⟩
    cases o1 with
    | exc x => cases e'; exact p
    | ok rv =>
      cases rv with
      | new ct => cases e'
      | val d =>
        cases d with
        | int n =>
          cases e'
          intro B' H' O' y s c1 b rx
          cases dp_int (show Dq X.K B' y (.int n) from rx)
          refine ⟨Nat.le_of_ble_eq_true rfl, fun a ha => ⟨a, n, rfl, T.T, T.row, upd_same .., fun dx hd hne => ?_⟩⟩
          have hdx : H' dx = none := by rwa [upd_ne hne] at hd
          refine ⟨rfl, dx, _, by rw [upd_ne hne, upd_same], ?_⟩
          rw [mk_end hne]
          obtain ⟨c2, s2⟩ := c1.layF (o := HO.xd [("row", .int n)]) hdx
          have ha2 : upd H' dx (HO.xd [("row", .int n)]) a = none := by rw [upd_ne (Ne.symm hne)]; exact ha
          obtain ⟨bA, nA, c3, s3⟩ := c2.lay (o := exo a C (some dx)) ha2
          refine p _ _ O' _ ((s.trans s2).trans s3) c3 b ⟨a, [a], rfl, ⟨rfl, (C, dx), upd_same .., hn, upd_same ..⟩, fun a' ha' => ?_⟩
          cases List.mem_singleton.mp ha'
          exact ⟨Option.eq_none_iff_forall_ne_some.mpr (fun o z => s.live a (by rw [z]; simp) ha), bA, nA⟩
        | _ => cases e'
theorem call_isO : CallR X (.builtin "isinstance") (fun xs H Q => ∃ (a D dd : Addr) (fs : List (Str × V)) (c : V) (cv : Value) (b : Bool), xs = [.ref a, c] ∧ H a = some (exo a D (some dd)) ∧ H dd = some (.xd fs) ∧ ExcC X.K D ∧ (∀ u, RelV c u → u = cv) ∧ PySem.W.kitOne X.K (.ref D) cv = some b ∧ Q (.bl b) H) := by
  intro pins s σ H xs us Q I r h
  obtain ⟨a, D, dd, fs, c, cv, b, rfl, ha, hd, C, hcv, e, q⟩ := h
  cases r with
  | cons rx rr =>
    cases rr with
    | cons rt rr =>
      cases rr
      cases rx
      have ec := hcv _ rt
      subst ec
      obtain ⟨t0, hoe⟩ := exo_at I.hok ha
      have hx : ObjOk X.prog X.w H s.heap dd (.xd fs) := I.hok dd _ hd
      obtain ⟨mA, hns, hr⟩ := hx
      obtain ⟨od, ho, hl⟩ := lookIn_ns hns
      have J : PySem.W.InstAt s.heap a _ D (some od) := ⟨hoe, rfl, rfl, ho⟩
      exact PySem.W.kia_one (PySem.W.kitx_exc (by obtain ⟨cd, hc, _⟩ := PySem.W.any_some C.hd; rw [hc]; rfl) C.hg C.hk C.hs C.ha C.hn C.ht C.hm) I.kIn J e (fun z => nomatch z) fun tk => ⟨.bl b, H, I.kept (t' := tk) fun _ _ z => z, rfl, q⟩
/-- what is known of the classes of such a value -/
def IsTab (K : PySem.W.Frag) (cv : Value) (tbl : List (Str × Bool)) : Prop := ∀ C b, tbl.lookup C = some b → ∃ D, PySem.W.nsIn K mainGlobals C = some (some (.ref D)) ∧ ExcC K D ∧ PySem.W.kitOne K (.ref D) cv = some b
theorem isTab_one {K : PySem.W.Frag} {cv : Value} {C : Str} {D : Addr} {b : Bool} (h : PySem.W.nsIn K mainGlobals C = some (some (.ref D))) (e : ExcC K D) (k : PySem.W.kitOne K (.ref D) cv = some b) : IsTab K cv [(C, b)] := fun C' b' z => by
  rw [List.lookup_cons] at z
  split at z
  · rename_i hc
    cases z
    rw [eq_of_beq hc]
    exact ⟨D, h, e, k⟩
  · cases z
theorem de_isX {i : Nat} {n T : Str} {c : V} {cv : Value} {tbl : List (Str × Bool)} {p p1 p2 pos : Pos} (hg : Gl X "isinstance") (hm : X.mg "isinstance" = none) (ho : PE X (.Name n p1) (tVar i)) (hT : PE X (.Name T p2) (tC c)) (hc : ClsV c cv) (ht : IsTab X.K cv tbl)
    (h1 : starEach [.Name n p1, .Name T p2] X.env = (false, eval (.Name n p1) X.env) :: starEach [.Name T p2] X.env := by rfl) (h2 : starEach [.Name T p2] X.env = (false, eval (.Name T p2) X.env) :: starEach [] X.env := by rfl)
    (hpl : (backTo pos (starEach [.Name T p2] X.env)).any (·.1) = false := by rfl) (hv : bootBuiltins "isinstance" = some (.builtin "isinstance") := by decide +kernel) :
    DE X W (.Call (.Name "isinstance" p) [.Name n p1, .Name T p2] [] pos) (mIsX i tbl) :=
  pe_weak (pe_callB (X := X) call_isO hg hm hv (pa_cons ho (pa_cons hT pa_nil h2) h1) (by decide) (by decide) h1 hpl) fun σ H Q ⟨B, r, O, cn, o, r', e, q⟩ => by
    unfold mIsX at e
    split at e
    · rename_i b C n hi
      obtain ⟨bb, hb, e⟩ := Option.map_eq_some_iff.mp e
      cases e
      obtain ⟨l, F, k1, ⟨rfl, pp, k2, k3, k4⟩, k5⟩ := cn.own i b _ hi
      obtain ⟨D, d1, d2, d3⟩ := ht C bb hb
      rw [k3] at d1
      have : pp.1 = D := by
        have := Option.some.inj (Option.some.inj d1)
        injection this
      subst this
      exact ⟨.ref l, k1, l, pp.1, pp.2, _, c, cv, bb, rfl, k2, cn.sub _ _ k4, d2, fun u hu => hc.eq hu, d3, q B H O _ .refl cn .refl (Dq.bl bb)⟩
    · cases e
/-- x.row -/
theorem pe_rowO {e : Expr} {te : TE} {pos : Pos} {n : Str} (he : PE X e te) (hb : attributeBase e n X.env (eval e X.env) = eval e X.env := by rfl) :
    PE X (.Attribute e n pos) (fun σ H Q => te σ H fun x H1 => ∃ (a D dd : Addr) (fs : List (Str × V)) (v : V), x = .ref a ∧ H1 a = some (exo a D (some dd)) ∧ H1 dd = some (.xd fs) ∧ ExcC X.K D ∧ PySem.W.findIn X.K (.ref D) n = some none ∧ fs.lookup n = some v ∧ Q v H1) := by
  refine ⟨fun pins s σ H Q I h => ?_⟩
  refine attr_of hb (thn (he.run pins s σ H _ I h) fun u s1 hh => ?_)
  obtain ⟨x, H1, I1, rx, a, D, dd, fs, v, ex, ha, hd, C, hno, hv, q⟩ := hh
  subst ex
  obtain rfl : u = Value.ref a := rx
  obtain ⟨t0, hoe⟩ := exo_at I1.hok ha
  have hx : ObjOk X.prog X.w H1 s1.heap dd (.xd fs) := I1.hok dd _ hd
  obtain ⟨mA, hns, hr⟩ := hx
  obtain ⟨od, ho, hl⟩ := lookIn_ns hns
  obtain ⟨u, hu, ru⟩ := RelO.some_of (v := v) (o := mA n) (by rw [← hv]; exact hr n)
  have J : PySem.W.InstAt s1.heap a _ D (some od) := ⟨hoe, rfl, rfl, ho⟩
  exact HandSPX.exc_get I1.kIn J C.hg C.hk C.hs (PySem.W.findObj_own C.hd hno rfl (by rw [hl, hu])) (handed_of ru) ⟨v, H1, I1.tok _, ru, q⟩
theorem de_rowX {i : Nat} {x : Str} {cls : String} {D : Addr} {p pos : Pos} (hn : PySem.W.nsIn X.K mainGlobals (Str.ofString cls) = some (some (.ref D))) (C : ExcC X.K D) (hno : PySem.W.findIn X.K (.ref D) "row" = some none) (ho : PE X (.Name x p) (tVar i))
    (hb : attributeBase (.Name x p) "row" X.env (eval (.Name x p) X.env) = eval (.Name x p) X.env := by rfl) :
    DE X W (.Attribute (.Name x p) "row" pos) (mRowX i (Str.ofString cls)) :=
  pe_weak (pe_rowO ho hb) fun σ H Q ⟨B, r, O, cn, o, r', e, q⟩ => by
    unfold mRowX at e
    split at e
    · rename_i b C' n hi
      split at e
      · rename_i hc
        subst hc
        cases e
        obtain ⟨l, F, k1, ⟨rfl, pp, k2, k3, k4⟩, k5⟩ := cn.own i b _ hi
        rw [k3] at hn
        have : pp.1 = D := by
          have := Option.some.inj (Option.some.inj hn)
          injection this
        subst this
        exact ⟨.ref l, k1, l, pp.1, pp.2, _, .int n, rfl, k2, cn.sub _ _ k4, C, hno, rfl, q B H O _ .refl cn .refl (Dq.int n)⟩
      · cases e
    · cases e
end
end DL
end

section
namespace Lw
open PySem PySem.Spec PyProof.Rows L2 DL
def topS (i : Nat) : Stmt := PySem.Challenge.pw_holefloor_k85_no_texts.main.body.getD i (.Pass ⟨0, 0, 0, 0⟩)
abbrev s_place_of : Stmt := topS 20
abbrev s_ends_of : Stmt := topS 21
abbrev s_ends_at : Stmt := topS 22
abbrev s_number_in : Stmt := topS 26
abbrev s_Reader___init__ : Stmt := inClass (topS 27) 0
abbrev s_Reader_takes_places : Stmt := inClass (topS 27) 1
abbrev s_Reader_takes_tie : Stmt := inClass (topS 27) 2
abbrev s_Reader_web : Stmt := inClass (topS 27) 5
abbrev s_Reader_takes_at : Stmt := inClass (topS 27) 3
abbrev s_Reader_takes : Stmt := inClass (topS 27) 4
abbrev s_Reader_is_done : Stmt := inClass (topS 27) 6
abbrev s_Reader_floor : Stmt := inClass (topS 27) 7
abbrev s_read : Stmt := topS 28
abbrev s_Lpen : Stmt := topS 30
abbrev s_Ldraw : Stmt := topS 31
abbrev s_Lweb : Stmt := topS 32
abbrev s_Lorder : Stmt := topS 33
abbrev s_Lwhole : Stmt := topS 34
abbrev s_Lsame : Stmt := topS 35
abbrev s_Ltext : Stmt := topS 36
abbrev s_Lkinds : Stmt := topS 37
abbrev s_Lread : Stmt := topS 38
abbrev s_law : Stmt := topS 39
abbrev s_NoText_init : Stmt := inClass (topS 16) 0
section
variable {P : Program} {w : World} {K : PySem.W.Frag} {mg : Str → Option Value} {base : Heap}
theorem sc_NoText_init : FnScope ["self", "row"] ["self", "row"] (defScope s_NoText_init) := ⟨rfl, rfl, rfl, by decide +kernel, rfl, by decide +kernel, by decide +kernel⟩
theorem row_NoText {f C C2 : Addr} {mc : Value} {fd : FuncData} (F : Fun K "__init__" "NoText.__init__" s_NoText_init f fd) (hm : mg "FloorError" = some (.ref C2)) (rd : ClX.CRead K C2 mc) (vV : PySem.W.findCls K (.ref C2) mc "__init__" = some (.val (.builtin "ValueError.__init__"))) :
    FnOk P w K mg base noCX 1 f fd ["self", "row"] (spRow K C) :=
  fn_row (k := 0) (fl := "FloorError") F sc_NoText_init rfl (by unfold Vis; decide +kernel) (by unfold Vis; decide +kernel) (fun _ _ _ _ _ _ => by rfl) hm rd vV (by decide) (fun env => ⟨_, rfl⟩)
theorem sc_place_of : FnScope ["web", "end"] ["web", "end"] (defScope s_place_of) := ⟨rfl, rfl, rfl, by decide +kernel, rfl, by decide +kernel, by decide +kernel⟩
set_option maxHeartbeats 4000000 in
theorem ok_place_of {k : Nat} {f : Addr} {fd : FuncData} (F : Fun K "place_of" "place_of" s_place_of f fd) :
    FnOk P w K mg base (L2N.CX P w) (k + 1) f fd ["web", "end"] (spD K mg (defSem 2 2 b_place_of_8c4c) 2) :=
  def_ok (N := ["web", "end"]) F sc_place_of (by decide) fun cdv A outer s H E hr tk =>
    (dss_one (ds_ret (de_ix ixd_get (do_of (de_ix ixd_get (do_of (de_ix ixd_get (do_var (pv 0)) (do_of de_int) (fun _ _ => rfl))) (do_of (de_bin od_div (do_var (pv 1)) (do_of de_int))) (fun _ _ => rfl))) (do_of (de_bin od_mod (do_var (pv 1)) (do_of de_int))) (fun _ _ => rfl))))
theorem sc_ends_of : FnScope ["web"] ["web"] (defScope s_ends_of) := ⟨rfl, rfl, rfl, by decide +kernel, rfl, by decide +kernel, by decide +kernel⟩
set_option maxHeartbeats 4000000 in
theorem ok_ends_of {k : Nat} {f : Addr} {fd : FuncData} (F : Fun K "ends_of" "ends_of" s_ends_of f fd) (z_len : mg "len" = none) :
    FnOk P w K mg base (L2N.CX P w) (k + 1) f fd ["web"] (spD K mg (defSem 1 1 b_ends_of_168e) 1) :=
  def_ok (N := ["web"]) F sc_ends_of (by decide) fun cdv A outer s H E hr tk =>
    (dss_one (ds_ret (de_bin od_mul (do_of de_int) (do_of (de_cb cd_len (by rfl) z_len (by decide +kernel) (da_cons (do_of (de_ix ixd_get (do_var (pv 0)) (do_of de_int) (fun _ _ => rfl))) da_nil))))))
theorem sc_ends_at : FnScope ["web", "place", "end"] ["web", "place"] (defScope s_ends_at) := ⟨rfl, rfl, rfl, by decide +kernel, rfl, by decide +kernel, by decide +kernel⟩
set_option maxHeartbeats 4000000 in
theorem ok_ends_at {k : Nat} {f : Addr} {fd : FuncData} (F : Fun K "ends_at" "ends_at" s_ends_at f fd) {f_ends_of : Addr} {fd_ends_of : FuncData} (G_ends_of : FnOk P w K mg base (L2N.CX P w) k f_ends_of fd_ends_of ["web"] (spD K mg sem_ends_of_168e 1)) (g_ends_of : mg "ends_of" = some (.ref f_ends_of)) (k_ends_of : PySem.W.keepIn K (.ref f_ends_of) = true) (B_ends_of : Binds K fd_ends_of ["web"] []) {f_place_of : Addr} {fd_place_of : FuncData} (G_place_of : FnOk P w K mg base (L2N.CX P w) k f_place_of fd_place_of ["web", "end"] (spD K mg sem_place_of_8c4c 2)) (g_place_of : mg "place_of" = some (.ref f_place_of)) (k_place_of : PySem.W.keepIn K (.ref f_place_of) = true) (B_place_of : Binds K fd_place_of ["web", "end"] []) (z_range : mg "range" = none) :
    FnOk P w K mg base (L2N.CX P w) (k + 1) f fd ["web", "place"] (spD K mg (defSem 2 3 b_ends_at_2b9c) 2) :=
  def_ok (N := ["web", "place", "end"]) F sc_ends_at (by decide) fun cdv A outer s H E hr tk =>
    (dss_one (ds_ret (de_lc (own := [("end", 2)]) rfl sc_ends_at.nd (di_rng1 (by rfl) z_range (do_of (de_call tk G_ends_of hr (by rfl) g_ends_of k_ends_of B_ends_of rfl (da_cons (do_var (pv 0)) da_nil)))) (blkOk_by (own := [("end", 2)]) (by first | rfl | decide +kernel)) (fun _ _ _ _ _ => (dg_name sc_ends_at.nd rfl (by first | exact Or.inl rfl | exact Or.inr rfl))) (fun _ _ _ _ _ => (dts_one (db_cmp (od_eq hr.units) (do_of (de_call takesN0 G_place_of hr (by rfl) g_place_of k_place_of B_place_of rfl (da_cons (do_var (pv 0)) (da_cons (do_var (pv 2)) da_nil)))) (do_var (pv 1)) (nomark _)))) (fun _ _ _ _ _ => (de_var (pv 2))) (by decide))))
theorem sc_number_in : FnScope ["word", "sign"] ["word"] (defScope s_number_in) := ⟨rfl, rfl, rfl, by decide +kernel, rfl, by decide +kernel, by decide +kernel⟩
set_option maxHeartbeats 4000000 in
theorem ok_number_in {k : Nat} {f : Addr} {fd : FuncData} (F : Fun K "number_in" "number_in" s_number_in f fd) (z_len : mg "len" = none) (z_MOST_FIGURES : ∃ t, mg "MOST_FIGURES" = some (.int 60 t)) (z_FIGURES : ∃ t, mg "FIGURES" = some (.str (Str.ofString "0123456789") t)) (z_int : mg "int" = none) :
    FnOk P w K mg base (L2N.CX P w) (k + 1) f fd ["word"] (spD K mg (defSem 1 2 b_number_in_80b2) 1) :=
  def_ok (N := ["word", "sign"]) F sc_number_in (by decide) fun cdv A outer s H E hr tk =>
    (dss_cons (ds_if (db_w (dw_or (db_not (db_chain od_lt od_le (do_of de_int) (do_of (de_cb cd_len (by rfl) z_len (by decide +kernel) (da_cons (do_var (pv 0)) da_nil))) (do_of (de_globI (by rfl) z_MOST_FIGURES)))) (dw_or1 (db_w (dw_and (db_cmp (od_eq hr.units) (do_of (de_ix ixd_str (do_var (pv 0)) (do_of de_int) (fun _ _ => rfl))) (do_of de_str) (nomark _)) (dw_and1 (db_cmp od_gt (do_of (de_cb cd_len (by rfl) z_len (by decide +kernel) (da_cons (do_var (pv 0)) da_nil))) (do_of de_int) (nomark _)))))))) (dss_one (ds_ret de_non)) dss_nil)
    (dss_cons (ds_for (passes_of rfl) rfl (di_str (lo := false) (de_var (pv 0))) (dg_name sc_number_in.nd rfl (by first | exact Or.inl rfl | exact Or.inr rfl)) (dss_one (ds_if (db_cmp od_nsgn (do_var (pv 1)) (do_of (de_globS (by rfl) z_FIGURES)) (by rfl)) (dss_one (ds_ret de_non)) dss_nil)))
    (dss_one (ds_ret (de_ct cd_intS (by rfl) z_int (by decide +kernel) (da_cons (do_var (pv 0)) da_nil))))))
theorem sc_Reader___init__ : FnScope ["self"] ["self"] (defScope s_Reader___init__) := ⟨rfl, rfl, rfl, by decide +kernel, rfl, by decide +kernel, by decide +kernel⟩
set_option maxHeartbeats 4000000 in
theorem ok_Reader___init__ {k : Nat} {f : Addr} {fd : FuncData} (F : Fun K "__init__" "Reader.__init__" s_Reader___init__ f fd) {C_Reader : Addr} (oc_Reader : ClsK K mg "Reader" C_Reader) (na_Reader_many : NoAttr K C_Reader "many") (na_Reader_ties : NoAttr K C_Reader "ties") (na_Reader_rows : NoAttr K C_Reader "rows") (na_Reader_last : NoAttr K C_Reader "last") :
    FnOk P w K mg base (L2N.CX P w) (k + 1) f fd ["self"] (spD K mg (defSem 1 1 b_Reader___init___5752) 1) :=
  def_ok (N := ["self"]) F sc_Reader___init__ (by decide) fun cdv A outer s H E hr tk =>
    (dss_cons (ds_fldS oc_Reader.ns oc_Reader.cl na_Reader_many (pv 0) de_int)
    (dss_cons (ds_fldS oc_Reader.ns oc_Reader.cl na_Reader_ties (pv 0) (de_lst da_nil))
    (dss_cons (ds_fldS oc_Reader.ns oc_Reader.cl na_Reader_rows (pv 0) de_newK)
    (dss_one (ds_fldS oc_Reader.ns oc_Reader.cl na_Reader_last (pv 0) (de_un od_neg (do_of de_int)))))))
theorem sc_Reader_takes_places : FnScope ["self", "numbers"] ["self", "numbers"] (defScope s_Reader_takes_places) := ⟨rfl, rfl, rfl, by decide +kernel, rfl, by decide +kernel, by decide +kernel⟩
set_option maxHeartbeats 4000000 in
theorem ok_Reader_takes_places {k : Nat} {f : Addr} {fd : FuncData} (F : Fun K "takes_places" "Reader.takes_places" s_Reader_takes_places f fd) {C_Reader : Addr} (z_len : mg "len" = none) (z_MOST_PLACES : ∃ t, mg "MOST_PLACES" = some (.int 25 t)) (oc_Reader : ClsK K mg "Reader" C_Reader) (na_Reader_many : NoAttr K C_Reader "many") :
    FnOk P w K mg base (L2N.CX P w) (k + 1) f fd ["self", "numbers"] (spD K mg (defSem 2 2 b_Reader_takes_places_9bde) 2) :=
  def_ok (N := ["self", "numbers"]) F sc_Reader_takes_places (by decide) fun cdv A outer s H E hr tk =>
    (dss_cons (ds_if (db_w (dw_or (db_cmp od_gt (do_of (de_fld oc_Reader.ns oc_Reader.cl na_Reader_many (pv 0))) (do_of de_int) (nomark _)) (dw_or (db_cmp (od_ne hr.units) (do_of (de_cb cd_len (by rfl) z_len (by decide +kernel) (da_cons (do_var (pv 1)) da_nil))) (do_of de_int) (nomark _)) (dw_or1 (db_not (db_chain od_le od_le (do_of de_int) (do_of (de_ix ixd_get (do_var (pv 1)) (do_of de_int) (fun _ _ => rfl))) (do_of (de_globI (by rfl) z_MOST_PLACES)))))))) (dss_one (ds_ret de_bl)) dss_nil)
    (dss_cons (ds_fldS oc_Reader.ns oc_Reader.cl na_Reader_many (pv 0) (de_ix ixd_get (do_var (pv 1)) (do_of de_int) (fun _ _ => rfl)))
    (dss_one (ds_ret de_bl))))
theorem sc_Reader_takes_tie : FnScope ["self", "numbers"] ["self", "numbers"] (defScope s_Reader_takes_tie) := ⟨rfl, rfl, rfl, by decide +kernel, rfl, by decide +kernel, by decide +kernel⟩
set_option maxHeartbeats 4000000 in
theorem ok_Reader_takes_tie {k : Nat} {f : Addr} {fd : FuncData} (F : Fun K "takes_tie" "Reader.takes_tie" s_Reader_takes_tie f fd) {C_Reader : Addr} (z_len : mg "len" = none) (z_MOST_TIES : ∃ t, mg "MOST_TIES" = some (.int 24 t)) (z_max : mg "max" = none) (oc_Reader : ClsK K mg "Reader" C_Reader) (na_Reader_last : NoAttr K C_Reader "last") (na_Reader_ties : NoAttr K C_Reader "ties") (na_Reader_many : NoAttr K C_Reader "many") :
    FnOk P w K mg base (L2N.CX P w) (k + 1) f fd ["self", "numbers"] (spD K mg (defSem 2 2 b_Reader_takes_tie_7da9) 2) :=
  def_ok (N := ["self", "numbers"]) F sc_Reader_takes_tie (by decide) fun cdv A outer s H E hr tk =>
    (dss_cons (ds_if (db_w (dw_or (db_cmp od_ge (do_of (de_fld oc_Reader.ns oc_Reader.cl na_Reader_last (pv 0))) (do_of de_int) (nomark _)) (dw_or (db_cmp (od_eq hr.units) (do_of (de_cbF oc_Reader.ns oc_Reader.cl na_Reader_ties (pv 0) cd_len (by rfl) z_len (by decide +kernel))) (do_of (de_globI (by rfl) z_MOST_TIES)) (nomark _)) (dw_or (db_cmp (od_ne hr.units) (do_of (de_cb cd_len (by rfl) z_len (by decide +kernel) (da_cons (do_var (pv 1)) da_nil))) (do_of de_int) (nomark _)) (dw_or1 (db_cmp od_ge (do_of (de_cb (cd_maxL rfl hr.units) (by rfl) z_max (by decide +kernel) (da_cons (do_var (pv 1)) da_nil))) (do_of (de_fld oc_Reader.ns oc_Reader.cl na_Reader_many (pv 0))) (nomark _))))))) (dss_one (ds_ret de_bl)) dss_nil)
    (dss_cons (ds_expr (de_mutF oc_Reader.ns oc_Reader.cl na_Reader_ties PySem.F.plainAttrs_list PySem.F.slot_list_append PySem.F.type_list_append md_append (pv 0) (da_cons (do_of (de_tup (da_cons (do_of (de_ix ixd_get (do_var (pv 1)) (do_of de_int) (fun _ _ => rfl))) (da_cons (do_of (de_ix ixd_get (do_var (pv 1)) (do_of de_int) (fun _ _ => rfl))) da_nil)))) da_nil)))
    (dss_one (ds_ret de_bl))))
theorem sc_Reader_web : FnScope ["self"] ["self"] (defScope s_Reader_web) := ⟨rfl, rfl, rfl, by decide +kernel, rfl, by decide +kernel, by decide +kernel⟩
set_option maxHeartbeats 4000000 in
theorem ok_Reader_web {k : Nat} {f : Addr} {fd : FuncData} (F : Fun K "web" "Reader.web" s_Reader_web f fd) {C_Reader : Addr} (z_tuple : mg "tuple" = none) (oc_Reader : ClsK K mg "Reader" C_Reader) (na_Reader_many : NoAttr K C_Reader "many") (na_Reader_ties : NoAttr K C_Reader "ties") :
    FnOk P w K mg base (L2N.CX P w) (k + 1) f fd ["self"] (spD K mg (defSem 1 1 b_Reader_web_9457) 1) :=
  def_ok (N := ["self"]) F sc_Reader_web (by decide) fun cdv A outer s H E hr tk =>
    (dss_one (ds_ret (de_tup (da_cons (do_of (de_fld oc_Reader.ns oc_Reader.cl na_Reader_many (pv 0))) (da_cons (do_of (de_ctF oc_Reader.ns oc_Reader.cl na_Reader_ties (pv 0) cd_tuple (by rfl) z_tuple (by decide +kernel))) da_nil)))))
theorem sc_Reader_takes_at : FnScope ["self", "numbers", "ends"] ["self", "numbers"] (defScope s_Reader_takes_at) := ⟨rfl, rfl, rfl, by decide +kernel, rfl, by decide +kernel, by decide +kernel⟩
set_option maxHeartbeats 4000000 in
theorem ok_Reader_takes_at {k : Nat} {f : Addr} {fd : FuncData} (F : Fun K "takes_at" "Reader.takes_at" s_Reader_takes_at f fd) {C_Reader : Addr} {f_ends_at : Addr} {fd_ends_at : FuncData} (G_ends_at : FnOk P w K mg base (L2N.CX P w) k f_ends_at fd_ends_at ["web", "place"] (spD K mg sem_ends_at_2b9c 2)) (g_ends_at : mg "ends_at" = some (.ref f_ends_at)) (k_ends_at : PySem.W.keepIn K (.ref f_ends_at) = true) (B_ends_at : Binds K fd_ends_at ["web", "place"] []) {f_Reader_web : Addr} {fd_Reader_web : FuncData} (G_Reader_web : FnOk P w K mg base (L2N.CX P w) k f_Reader_web fd_Reader_web ["self"] (spD K mg sem_Reader_web_9457 1)) (g_Reader_web : Meth K C_Reader "web" f_Reader_web) (k_Reader_web : PySem.W.keepIn K (.ref f_Reader_web) = true) (B_Reader_web : Binds K fd_Reader_web ["self"] []) (z_len : mg "len" = none) (z_sorted : mg "sorted" = none) (z_min : mg "min" = none) (z_tuple : mg "tuple" = none) (oc_Reader : ClsK K mg "Reader" C_Reader) (na_Reader_last : NoAttr K C_Reader "last") (na_Reader_many : NoAttr K C_Reader "many") (na_Reader_rows : NoAttr K C_Reader "rows") :
    FnOk P w K mg base (L2N.CX P w) (k + 1) f fd ["self", "numbers"] (spD K mg (defSem 2 3 b_Reader_takes_at_5118) 2) :=
  def_ok (N := ["self", "numbers", "ends"]) F sc_Reader_takes_at (by decide) fun cdv A outer s H E hr tk =>
    (dss_cons (ds_if (db_w (dw_or (db_cmp od_lt (do_of (de_cb cd_len (by rfl) z_len (by decide +kernel) (da_cons (do_var (pv 1)) da_nil))) (do_of de_int) (nomark _)) (dw_or1 (db_not (db_chain od_lt od_lt (do_of (de_fld oc_Reader.ns oc_Reader.cl na_Reader_last (pv 0))) (do_of (de_ix ixd_get (do_var (pv 1)) (do_of de_int) (fun _ _ => rfl))) (do_of (de_fld oc_Reader.ns oc_Reader.cl na_Reader_many (pv 0)))))))) (dss_one (ds_ret de_bl)) dss_nil)
    (dss_cons (ds_set (i := 2) sc_Reader_takes_at.nd rfl (by first | exact Or.inl rfl | exact Or.inr rfl) (de_slice (do_var (pv 1)) (dp_some (do_of de_int)) dp_none))
    (dss_cons (ds_if (db_w (dw_or (db_cmp (od_ne hr.units) (do_of (de_cb (cd_sorted hr.units) (by rfl) z_sorted (by decide +kernel) (da_cons (do_var (pv 2)) da_nil))) (do_of (de_call tk G_ends_at hr (by rfl) g_ends_at k_ends_at B_ends_at rfl (da_cons (do_of (de_meth0 tk oc_Reader.ns oc_Reader.cl g_Reader_web G_Reader_web hr B_Reader_web rfl (pv 0))) (da_cons (do_of (de_ix ixd_get (do_var (pv 1)) (do_of de_int) (fun _ _ => rfl))) da_nil)))) (nomark _)) (dw_or1 (db_cmp (od_ne hr.units) (do_of (de_ix ixd_get (do_var (pv 2)) (do_of de_int) (fun _ _ => rfl))) (do_of (de_cb (cd_minL rfl hr.units) (by rfl) z_min (by decide +kernel) (da_cons (do_var (pv 2)) da_nil))) (nomark _))))) (dss_one (ds_ret de_bl)) dss_nil)
    (dss_cons (ds_putF oc_Reader.ns oc_Reader.cl na_Reader_rows (hu_of hr) (pv 0) (do_of (de_ix ixd_get (do_var (pv 1)) (do_of de_int) (fun _ _ => rfl))) (de_ct cd_tuple (by rfl) z_tuple (by decide +kernel) (da_cons (do_var (pv 2)) da_nil)))
    (dss_cons (ds_fldS oc_Reader.ns oc_Reader.cl na_Reader_last (pv 0) (de_ix ixd_get (do_var (pv 1)) (do_of de_int) (fun _ _ => rfl)))
    (dss_one (ds_ret de_bl)))))))
theorem sc_Reader_takes : FnScope ["self", "line", "words", "numbers", "word"] ["self", "line"] (defScope s_Reader_takes) := ⟨rfl, rfl, rfl, by decide +kernel, rfl, by decide +kernel, by decide +kernel⟩
set_option maxHeartbeats 4000000 in
theorem ok_Reader_takes {k : Nat} {f : Addr} {fd : FuncData} (F : Fun K "takes" "Reader.takes" s_Reader_takes f fd) {C_Reader : Addr} {f_number_in : Addr} {fd_number_in : FuncData} (G_number_in : FnOk P w K mg base (L2N.CX P w) k f_number_in fd_number_in ["word"] (spD K mg sem_number_in_80b2 1)) (g_number_in : mg "number_in" = some (.ref f_number_in)) (k_number_in : PySem.W.keepIn K (.ref f_number_in) = true) (B_number_in : Binds K fd_number_in ["word"] []) {f_Reader_takes_places : Addr} {fd_Reader_takes_places : FuncData} (G_Reader_takes_places : FnOk P w K mg base (L2N.CX P w) k f_Reader_takes_places fd_Reader_takes_places ["self", "numbers"] (spD K mg sem_Reader_takes_places_9bde 2)) (g_Reader_takes_places : Meth K C_Reader "takes_places" f_Reader_takes_places) (k_Reader_takes_places : PySem.W.keepIn K (.ref f_Reader_takes_places) = true) (B_Reader_takes_places : Binds K fd_Reader_takes_places ["self", "numbers"] []) {f_Reader_takes_tie : Addr} {fd_Reader_takes_tie : FuncData} (G_Reader_takes_tie : FnOk P w K mg base (L2N.CX P w) k f_Reader_takes_tie fd_Reader_takes_tie ["self", "numbers"] (spD K mg sem_Reader_takes_tie_7da9 2)) (g_Reader_takes_tie : Meth K C_Reader "takes_tie" f_Reader_takes_tie) (k_Reader_takes_tie : PySem.W.keepIn K (.ref f_Reader_takes_tie) = true) (B_Reader_takes_tie : Binds K fd_Reader_takes_tie ["self", "numbers"] []) {f_Reader_takes_at : Addr} {fd_Reader_takes_at : FuncData} (G_Reader_takes_at : FnOk P w K mg base (L2N.CX P w) k f_Reader_takes_at fd_Reader_takes_at ["self", "numbers"] (spD K mg sem_Reader_takes_at_5118 2)) (g_Reader_takes_at : Meth K C_Reader "takes_at" f_Reader_takes_at) (k_Reader_takes_at : PySem.W.keepIn K (.ref f_Reader_takes_at) = true) (B_Reader_takes_at : Binds K fd_Reader_takes_at ["self", "numbers"] []) (oc_Reader : ClsK K mg "Reader" C_Reader) :
    FnOk P w K mg base (L2N.CX P w) (k + 1) f fd ["self", "line"] (spD K mg (defSem 2 5 b_Reader_takes_c2ed) 2) :=
  def_ok (N := ["self", "line", "words", "numbers", "word"]) F sc_Reader_takes (by decide) fun cdv A outer s H E hr tk =>
    (dss_cons (ds_set (i := 2) sc_Reader_takes.nd rfl (by first | exact Or.inl rfl | exact Or.inr rfl) (de_split (do_var (pv 1)) (do_of de_str)))
    (dss_cons (ds_setLc (i := 3) (own := [("word", 4)]) rfl sc_Reader_takes.nd rfl rfl (sw_true rfl rfl rfl (by decide +kernel)) (di_seq (lo := false) (de_slice (do_var (pv 2)) (dp_some (do_of de_int)) dp_none)) (blkOk_by (own := [("word", 4)]) (by first | rfl | decide +kernel)) (fun _ _ _ _ _ => (dg_name sc_Reader_takes.nd rfl (by first | exact Or.inl rfl | exact Or.inr rfl))) (fun _ _ _ _ _ => dts_nil) (fun _ _ _ _ _ => (de_call takesN0 G_number_in hr (by rfl) g_number_in k_number_in B_number_in rfl (da_cons (do_var (pv 4)) da_nil))) (by decide))
    (dss_cons (ds_if (db_cmp (od_in hr.units) (do_of de_non) (do_var (pv 3)) (by rfl)) (dss_one (ds_ret de_bl)) dss_nil)
    (dss_cons (ds_if (db_cmp (od_eq hr.units) (do_of (de_ix ixd_get (do_var (pv 2)) (do_of de_int) (fun _ _ => rfl))) (do_of de_str) (nomark _)) (dss_one (ds_ret (de_meth tk oc_Reader.ns oc_Reader.cl g_Reader_takes_places G_Reader_takes_places hr B_Reader_takes_places rfl (pv 0) (da_cons (do_var (pv 3)) da_nil)))) dss_nil)
    (dss_cons (ds_if (db_cmp (od_eq hr.units) (do_of (de_ix ixd_get (do_var (pv 2)) (do_of de_int) (fun _ _ => rfl))) (do_of de_str) (nomark _)) (dss_one (ds_ret (de_meth tk oc_Reader.ns oc_Reader.cl g_Reader_takes_tie G_Reader_takes_tie hr B_Reader_takes_tie rfl (pv 0) (da_cons (do_var (pv 3)) da_nil)))) dss_nil)
    (dss_one (ds_ret (de_and (de_cmp (od_eq hr.units) (do_of (de_ix ixd_get (do_var (pv 2)) (do_of de_int) (fun _ _ => rfl))) (do_of de_str) (nomark _)) (de_one (de_meth tk oc_Reader.ns oc_Reader.cl g_Reader_takes_at G_Reader_takes_at hr B_Reader_takes_at rfl (pv 0) (da_cons (do_var (pv 3)) da_nil)))))))))))
theorem sc_Reader_is_done : FnScope ["self", "place"] ["self"] (defScope s_Reader_is_done) := ⟨rfl, rfl, rfl, by decide +kernel, rfl, by decide +kernel, by decide +kernel⟩
set_option maxHeartbeats 4000000 in
theorem ok_Reader_is_done {k : Nat} {f : Addr} {fd : FuncData} (F : Fun K "is_done" "Reader.is_done" s_Reader_is_done f fd) {C_Reader : Addr} {f_ends_at : Addr} {fd_ends_at : FuncData} (G_ends_at : FnOk P w K mg base (L2N.CX P w) k f_ends_at fd_ends_at ["web", "place"] (spD K mg sem_ends_at_2b9c 2)) (g_ends_at : mg "ends_at" = some (.ref f_ends_at)) (k_ends_at : PySem.W.keepIn K (.ref f_ends_at) = true) (B_ends_at : Binds K fd_ends_at ["web", "place"] []) {f_Reader_web : Addr} {fd_Reader_web : FuncData} (G_Reader_web : FnOk P w K mg base (L2N.CX P w) k f_Reader_web fd_Reader_web ["self"] (spD K mg sem_Reader_web_9457 1)) (g_Reader_web : Meth K C_Reader "web" f_Reader_web) (k_Reader_web : PySem.W.keepIn K (.ref f_Reader_web) = true) (B_Reader_web : Binds K fd_Reader_web ["self"] []) (z_range : mg "range" = none) (z_all : mg "all" = none) (oc_Reader : ClsK K mg "Reader" C_Reader) (na_Reader_many : NoAttr K C_Reader "many") (na_Reader_rows : NoAttr K C_Reader "rows") :
    FnOk P w K mg base (L2N.CX P w) (k + 1) f fd ["self"] (spD K mg (defSem 1 2 b_Reader_is_done_a1c1) 1) :=
  def_ok (N := ["self", "place"]) F sc_Reader_is_done (by decide) fun cdv A outer s H E hr tk =>
    (dss_one (ds_ret (de_cb (cd_all rfl) (by rfl) z_all (by decide +kernel) (da_cons (do_of (de_lc (own := [("place", 1)]) rfl sc_Reader_is_done.nd (di_rng1 (by rfl) z_range (do_of (de_fld oc_Reader.ns oc_Reader.cl na_Reader_many (pv 0)))) (blkOk_by (own := [("place", 1)]) (by first | rfl | decide +kernel)) (fun _ _ _ _ _ => (dg_name sc_Reader_is_done.nd rfl (by first | exact Or.inl rfl | exact Or.inr rfl))) (fun _ _ _ _ _ => dts_nil) (fun _ _ _ _ _ => (de_or (de_inF oc_Reader.ns oc_Reader.cl na_Reader_rows (hu_of hr) (do_var (pv 1)) (pv 0)) (de_one (de_cmp (od_eq hr.units) (do_of (de_call takesN0 G_ends_at hr (by rfl) g_ends_at k_ends_at B_ends_at rfl (da_cons (do_of (de_meth0 takesN0 oc_Reader.ns oc_Reader.cl g_Reader_web G_Reader_web hr B_Reader_web rfl (pv 0))) (da_cons (do_var (pv 1)) da_nil)))) (do_of (de_lst da_nil)) (nomark _))))) (by decide))) da_nil))))
theorem sc_Reader_floor : FnScope ["self", "place"] ["self"] (defScope s_Reader_floor) := ⟨rfl, rfl, rfl, by decide +kernel, rfl, by decide +kernel, by decide +kernel⟩
set_option maxHeartbeats 4000000 in
theorem ok_Reader_floor {k : Nat} {f : Addr} {fd : FuncData} (F : Fun K "floor" "Reader.floor" s_Reader_floor f fd) {C_Reader : Addr} {f_Reader_web : Addr} {fd_Reader_web : FuncData} (G_Reader_web : FnOk P w K mg base (L2N.CX P w) k f_Reader_web fd_Reader_web ["self"] (spD K mg sem_Reader_web_9457 1)) (g_Reader_web : Meth K C_Reader "web" f_Reader_web) (k_Reader_web : PySem.W.keepIn K (.ref f_Reader_web) = true) (B_Reader_web : Binds K fd_Reader_web ["self"] []) (z_range : mg "range" = none) (z_tuple : mg "tuple" = none) (oc_Reader : ClsK K mg "Reader" C_Reader) (na_Reader_many : NoAttr K C_Reader "many") (na_Reader_rows : NoAttr K C_Reader "rows") :
    FnOk P w K mg base (L2N.CX P w) (k + 1) f fd ["self"] (spD K mg (defSem 1 2 b_Reader_floor_fb3f) 1) :=
  def_ok (N := ["self", "place"]) F sc_Reader_floor (by decide) fun cdv A outer s H E hr tk =>
    (dss_one (ds_ret (de_tup (da_cons (do_of (de_meth0 tk oc_Reader.ns oc_Reader.cl g_Reader_web G_Reader_web hr B_Reader_web rfl (pv 0))) (da_cons (do_of (de_ct cd_tuple (by rfl) z_tuple (by decide +kernel) (da_cons (do_of (de_lc (own := [("place", 1)]) rfl sc_Reader_floor.nd (di_rng1 (by rfl) z_range (do_of (de_fld oc_Reader.ns oc_Reader.cl na_Reader_many (pv 0)))) (blkOk_by (own := [("place", 1)]) (by first | rfl | decide +kernel)) (fun _ _ _ _ _ => (dg_name sc_Reader_floor.nd rfl (by first | exact Or.inl rfl | exact Or.inr rfl))) (fun _ _ _ _ _ => dts_nil) (fun _ _ _ _ _ => (de_get2F oc_Reader.ns oc_Reader.cl na_Reader_rows (hu_of hr) (pv 0) (do_var (pv 1)) (de_tup da_nil))) (by decide))) da_nil))) da_nil)))))
theorem sc_read : FnScope ["text", "reader", "lines", "k"] ["text"] (defScope s_read) := ⟨rfl, rfl, rfl, by decide +kernel, rfl, by decide +kernel, by decide +kernel⟩
set_option maxHeartbeats 4000000 in
theorem ok_read {k : Nat} {f : Addr} {fd : FuncData} (F : Fun K "read" "read" s_read f fd) {C_Reader : Addr} {kI_Reader___init__ : Nat} {f_Reader___init__ : Addr} {fd_Reader___init__ : FuncData} (G_Reader___init__ : FnOk P w K mg base (L2N.CX P w) kI_Reader___init__ f_Reader___init__ fd_Reader___init__ ["self"] (spD K mg sem_Reader___init___5752 1)) (h_Reader___init__ : kI_Reader___init__ + 1 ≤ k) (g_Reader___init__ : Mk K C_Reader f_Reader___init__) (k_Reader___init__ : PySem.W.keepIn K (.ref f_Reader___init__) = true) (B_Reader___init__ : Binds K fd_Reader___init__ ["self"] []) {f_Reader_takes : Addr} {fd_Reader_takes : FuncData} (G_Reader_takes : FnOk P w K mg base (L2N.CX P w) k f_Reader_takes fd_Reader_takes ["self", "line"] (spD K mg sem_Reader_takes_c2ed 2)) (g_Reader_takes : Meth K C_Reader "takes" f_Reader_takes) (k_Reader_takes : PySem.W.keepIn K (.ref f_Reader_takes) = true) (B_Reader_takes : Binds K fd_Reader_takes ["self", "line"] []) {f_Reader_is_done : Addr} {fd_Reader_is_done : FuncData} (G_Reader_is_done : FnOk P w K mg base (L2N.CX P w) k f_Reader_is_done fd_Reader_is_done ["self"] (spD K mg sem_Reader_is_done_a1c1 1)) (g_Reader_is_done : Meth K C_Reader "is_done" f_Reader_is_done) (k_Reader_is_done : PySem.W.keepIn K (.ref f_Reader_is_done) = true) (B_Reader_is_done : Binds K fd_Reader_is_done ["self"] []) {f_Reader_floor : Addr} {fd_Reader_floor : FuncData} (G_Reader_floor : FnOk P w K mg base (L2N.CX P w) k f_Reader_floor fd_Reader_floor ["self"] (spD K mg sem_Reader_floor_fb3f 1)) (g_Reader_floor : Meth K C_Reader "floor" f_Reader_floor) (k_Reader_floor : PySem.W.keepIn K (.ref f_Reader_floor) = true) (B_Reader_floor : Binds K fd_Reader_floor ["self"] []) (z_isinstance : mg "isinstance" = none) (z_str : mg "str" = none) (z_len : mg "len" = none) (z_range : mg "range" = none) {C_NoText : Addr} (xr_NoText : RowE P w K mg base "NoText" C_NoText) (oc_Reader : ClsK K mg "Reader" C_Reader) (hk2 : 2 ≤ k) :
    FnOk P w K mg base (L2N.CX P w) (k + 1) f fd ["text"] (spD K mg (defSem 1 4 b_read_4cf3R) 1) :=
  def_ok (N := ["text", "reader", "lines", "k"]) F sc_read (by decide) fun cdv A outer s H E hr tk =>
    (dss_cons (ds_if (db_not (db_val (de_isi (t := .str) (by rfl) z_isinstance (by rfl) z_str (do_var (pv 0)) (by decide +kernel)))) (dss_one (ds_raiseE (cls := "NoText") rfl tk xr_NoText (hr.mono hk2) (by rfl) de_int)) dss_nil)
    (dss_cons (ds_set (i := 1) sc_read.nd rfl (by first | exact Or.inl rfl | exact Or.inr rfl) (de_make0 tk oc_Reader.ns g_Reader___init__ G_Reader___init__ (hr.mono h_Reader___init__) (by rfl) oc_Reader.gl B_Reader___init__ rfl))
    (dss_cons (ds_set (i := 2) sc_read.nd rfl (by first | exact Or.inl rfl | exact Or.inr rfl) (de_split (do_var (pv 0)) (do_of de_str)))
    (dss_cons (ds_for (passes_of rfl) rfl (di_rng1 (by rfl) z_range (do_of (de_cb cd_len (by rfl) z_len (by decide +kernel) (da_cons (do_var (pv 2)) da_nil)))) (dg_name sc_read.nd rfl (by first | exact Or.inl rfl | exact Or.inr rfl)) (dss_one (ds_if (db_not (db_val (de_meth tk oc_Reader.ns oc_Reader.cl g_Reader_takes G_Reader_takes hr B_Reader_takes rfl (pv 1) (da_cons (do_of (de_ix ixd_get (do_var (pv 2)) (do_var (pv 3)) (fun _ _ => rfl))) da_nil)))) (dss_one (ds_raiseE (cls := "NoText") rfl tk xr_NoText (hr.mono hk2) (by rfl) (de_bin od_add (do_var (pv 3)) (do_of de_int)))) dss_nil)))
    (dss_cons (ds_if (db_not (db_val (de_meth0 tk oc_Reader.ns oc_Reader.cl g_Reader_is_done G_Reader_is_done hr B_Reader_is_done rfl (pv 1)))) (dss_one (ds_raiseE (cls := "NoText") rfl tk xr_NoText (hr.mono hk2) (by rfl) (de_bin od_add (do_of (de_cb cd_len (by rfl) z_len (by decide +kernel) (da_cons (do_var (pv 2)) da_nil))) (do_of de_int)))) dss_nil)
    (dss_one (ds_ret (de_meth0 tk oc_Reader.ns oc_Reader.cl g_Reader_floor G_Reader_floor hr B_Reader_floor rfl (pv 1)))))))))
theorem sc_Lpen : FnScope ["_law_script", "_law_cell"] ["_law_script"] (defScope s_Lpen) := ⟨rfl, rfl, rfl, by decide +kernel, rfl, by decide +kernel, by decide +kernel⟩
set_option maxHeartbeats 4000000 in
theorem ok_Lpen {k : Nat} {f : Addr} {fd : FuncData} (F : Fun K "_law_pen" "_law_pen" s_Lpen f fd) :
    FnOk P w K mg base (L2N.CX P w) (k + 1) f fd ["_law_script"] (spD K mg (defSem 1 2 b_Lpen_3d2f) 1) :=
  def_ok (N := ["_law_script", "_law_cell"]) F sc_Lpen (by decide) fun cdv A outer s H E hr tk =>
    (dss_one (ds_ret (de_lst (da_cons (do_of (de_lc (own := [("_law_cell", 1)]) rfl sc_Lpen.nd (di_seq (lo := false) (de_slice (do_var (pv 0)) dp_none (dp_some (do_of de_int)))) (blkOk_by (own := [("_law_cell", 1)]) (by first | rfl | decide +kernel)) (fun _ _ _ _ _ => (dg_name sc_Lpen.nd rfl (by first | exact Or.inl rfl | exact Or.inr rfl))) (fun _ _ _ _ _ => dts_nil) (fun _ _ _ _ _ => (de_var (pv 1))) (by decide))) (da_cons (do_of de_int) (da_cons (do_of de_int) da_nil))))))
theorem sc_Ldraw : FnScope ["_law_pen_here", "_law_many", "_law_at", "_law_cell", "_law_number", "_law_digit"] ["_law_pen_here", "_law_many"] (defScope s_Ldraw) := ⟨rfl, rfl, rfl, by decide +kernel, rfl, by decide +kernel, by decide +kernel⟩
set_option maxHeartbeats 4000000 in
theorem ok_Ldraw {k : Nat} {f : Addr} {fd : FuncData} (F : Fun K "_law_draw" "_law_draw" s_Ldraw f fd) (z_len : mg "len" = none) (z_abs : mg "abs" = none) :
    FnOk P w K mg base (L2N.CX P w) (k + 1) f fd ["_law_pen_here", "_law_many"] (spD K mg (defSem 2 6 b_Ldraw_de5b) 2) :=
  def_ok (N := ["_law_pen_here", "_law_many", "_law_at", "_law_cell", "_law_number", "_law_digit"]) F sc_Ldraw (by decide) fun cdv A outer s H E hr tk =>
    (dss_cons (ds_if (db_cmp od_gt (do_of (de_ix ixd_get (do_var (pv 0)) (do_of de_int) (fun _ _ => rfl))) (do_of de_int) (nomark _)) (dss_cons (ds_set (i := 5) sc_Ldraw.nd rfl (by first | exact Or.inl rfl | exact Or.inr rfl) (de_bin od_mod (do_of (de_ix ixd_get (do_var (pv 0)) (do_of de_int) (fun _ _ => rfl))) (do_var (pv 1))))
    (dss_cons (ds_sub (pv 0) (de_bin od_div (do_of (de_ix ixd_get (do_var (pv 0)) (do_of de_int) (fun _ _ => rfl))) (do_var (pv 1))) (do_of de_int))
    (dss_one (ds_ret (de_var (pv 5)))))) dss_nil)
    (dss_cons (ds_set (i := 2) sc_Ldraw.nd rfl (by first | exact Or.inl rfl | exact Or.inr rfl) (de_ix ixd_get (do_var (pv 0)) (do_of de_int) (fun _ _ => rfl)))
    (dss_cons (ds_sub (pv 0) (de_bin od_add (do_var (pv 2)) (do_of de_int)) (do_of de_int))
    (dss_cons (ds_set (i := 3) sc_Ldraw.nd rfl (by first | exact Or.inl rfl | exact Or.inr rfl) de_int)
    (dss_cons (ds_if (db_cmp od_gt (do_of (de_cb cd_len (by rfl) z_len (by decide +kernel) (da_cons (do_of (de_ix ixd_get (do_var (pv 0)) (do_of de_int) (fun _ _ => rfl))) da_nil))) (do_of de_int) (nomark _)) (dss_one (ds_set (i := 3) sc_Ldraw.nd rfl (by first | exact Or.inl rfl | exact Or.inr rfl) (de_ix ixd_get (do_of (de_ix ixd_get (do_var (pv 0)) (do_of de_int) (fun _ _ => rfl))) (do_of (de_bin od_mod (do_var (pv 2)) (do_of (de_cb cd_len (by rfl) z_len (by decide +kernel) (da_cons (do_of (de_ix ixd_get (do_var (pv 0)) (do_of de_int) (fun _ _ => rfl))) da_nil))))) (fun _ _ => rfl)))) dss_nil)
    (dss_cons (ds_if (db_w (dw_and (db_cmp od_lt (do_var (pv 2)) (do_of (de_cb cd_len (by rfl) z_len (by decide +kernel) (da_cons (do_of (de_ix ixd_get (do_var (pv 0)) (do_of de_int) (fun _ _ => rfl))) da_nil))) (nomark _)) (dw_and1 (db_cmp od_ge (do_of (de_cb cd_abs (by rfl) z_abs (by decide +kernel) (da_cons (do_var (pv 3)) da_nil))) (do_of (de_bin od_pow (do_of de_int) (do_of de_int))) (nomark _))))) (dss_cons (ds_sub (pv 0) (de_bin od_div (do_of (de_cb cd_abs (by rfl) z_abs (by decide +kernel) (da_cons (do_var (pv 3)) da_nil))) (do_var (pv 1))) (do_of de_int))
    (dss_one (ds_ret (de_bin od_mod (do_of (de_cb cd_abs (by rfl) z_abs (by decide +kernel) (da_cons (do_var (pv 3)) da_nil))) (do_var (pv 1)))))) dss_nil)
    (dss_cons (ds_set (i := 4) sc_Ldraw.nd rfl (by first | exact Or.inl rfl | exact Or.inr rfl) (de_bin od_mod (do_of (de_bin od_mul (do_of (de_bin od_add (do_of (de_bin od_add (do_of (de_bin od_mod (do_var (pv 3)) (do_of de_int))) (do_of (de_bin od_mul (do_of de_int) (do_var (pv 2)))))) (do_of de_int))) (do_of de_int))) (do_of de_int)))
    (dss_cons (ds_set (i := 4) sc_Ldraw.nd rfl (by first | exact Or.inl rfl | exact Or.inr rfl) (de_bin od_mod (do_of (de_bin od_add (do_of (de_bin od_add (do_of (de_bin od_mul (do_var (pv 4)) (do_var (pv 4)))) (do_of (de_bin od_mul (do_of de_int) (do_var (pv 4)))))) (do_var (pv 2)))) (do_of de_int)))
    (dss_one (ds_ret (de_bin od_mod (do_of (de_bin od_div (do_of (de_bin od_mod (do_of (de_bin od_mul (do_var (pv 4)) (do_of de_int))) (do_of de_int))) (do_of de_int))) (do_var (pv 1)))))))))))))
theorem sc_Lweb : FnScope ["_law_pen_here", "_law_places", "_law_ties", "_law_many", "_law_way", "_law_count", "_law_found", "_law_k", "_law_a", "_law_b"] ["_law_pen_here", "_law_places", "_law_ties"] (defScope s_Lweb) := ⟨rfl, rfl, rfl, by decide +kernel, rfl, by decide +kernel, by decide +kernel⟩
set_option maxHeartbeats 4000000 in
theorem ok_Lweb {k : Nat} {f : Addr} {fd : FuncData} (F : Fun K "_law_web" "_law_web" s_Lweb f fd) {f_Ldraw : Addr} {fd_Ldraw : FuncData} (G_Ldraw : FnOk P w K mg base (L2N.CX P w) k f_Ldraw fd_Ldraw ["_law_pen_here", "_law_many"] (spD K mg sem_Ldraw_de5b 2)) (g_Ldraw : mg "_law_draw" = some (.ref f_Ldraw)) (k_Ldraw : PySem.W.keepIn K (.ref f_Ldraw) = true) (B_Ldraw : Binds K fd_Ldraw ["_law_pen_here", "_law_many"] []) (z_range : mg "range" = none) (z_min : mg "min" = none) (z_tuple : mg "tuple" = none) :
    FnOk P w K mg base (L2N.CX P w) (k + 1) f fd ["_law_pen_here", "_law_places", "_law_ties"] (spD K mg (defSem 3 10 b_Lweb_0350) 3) :=
  def_ok (N := ["_law_pen_here", "_law_places", "_law_ties", "_law_many", "_law_way", "_law_count", "_law_found", "_law_k", "_law_a", "_law_b"]) F sc_Lweb (by decide) fun cdv A outer s H E hr tk =>
    (dss_cons (ds_set (i := 3) sc_Lweb.nd rfl (by first | exact Or.inl rfl | exact Or.inr rfl) (de_bin od_add (do_of de_int) (do_of (de_call tk G_Ldraw hr (by rfl) g_Ldraw k_Ldraw B_Ldraw rfl (da_cons (do_var (pv 0)) (da_cons (do_var (pv 1)) da_nil))))))
    (dss_cons (ds_set (i := 4) sc_Lweb.nd rfl (by first | exact Or.inl rfl | exact Or.inr rfl) (de_call tk G_Ldraw hr (by rfl) g_Ldraw k_Ldraw B_Ldraw rfl (da_cons (do_var (pv 0)) (da_cons (do_of de_int) da_nil))))
    (dss_cons (ds_set (i := 5) sc_Lweb.nd rfl (by first | exact Or.inl rfl | exact Or.inr rfl) (de_call tk G_Ldraw hr (by rfl) g_Ldraw k_Ldraw B_Ldraw rfl (da_cons (do_var (pv 0)) (da_cons (do_of (de_bin od_add (do_var (pv 2)) (do_of de_int))) da_nil))))
    (dss_cons (ds_if (db_cmp (od_eq hr.units) (do_var (pv 4)) (do_of de_int) (nomark _)) (dss_cons (ds_set (i := 3) sc_Lweb.nd rfl (by first | exact Or.inl rfl | exact Or.inr rfl) (de_var (pv 1)))
    (dss_one (ds_set (i := 5) sc_Lweb.nd rfl (by first | exact Or.inl rfl | exact Or.inr rfl) (de_var (pv 2))))) dss_nil)
    (dss_cons (ds_set (i := 6) sc_Lweb.nd rfl (by first | exact Or.inl rfl | exact Or.inr rfl) (de_lst da_nil))
    (dss_cons (ds_for (passes_of rfl) rfl (di_rng1 (by rfl) z_range (do_var (pv 5))) (dg_name sc_Lweb.nd rfl (by first | exact Or.inl rfl | exact Or.inr rfl)) (dss_cons (ds_par (i := 8) (j := 9) rfl sc_Lweb.nd rfl rfl (by decide) rfl rfl (de_call tk G_Ldraw hr (by rfl) g_Ldraw k_Ldraw B_Ldraw rfl (da_cons (do_var (pv 0)) (da_cons (do_var (pv 3)) da_nil))) (de_call tk G_Ldraw hr (by rfl) g_Ldraw k_Ldraw B_Ldraw rfl (da_cons (do_var (pv 0)) (da_cons (do_var (pv 3)) da_nil))) (by rfl))
    (dss_cons (ds_if (db_cmp (od_eq hr.units) (do_var (pv 4)) (do_of de_int) (nomark _)) (dss_one (ds_par (i := 8) (j := 9) rfl sc_Lweb.nd rfl rfl (by decide) rfl rfl (de_bin od_mod (do_var (pv 7)) (do_var (pv 3))) (de_bin od_mod (do_of (de_bin od_add (do_var (pv 7)) (do_of de_int))) (do_var (pv 3))) (by rfl))) dss_nil)
    (dss_cons (ds_if (db_cmp (od_eq hr.units) (do_var (pv 4)) (do_of de_int) (nomark _)) (dss_one (ds_set (i := 8) sc_Lweb.nd rfl (by first | exact Or.inl rfl | exact Or.inr rfl) de_int)) dss_nil)
    (dss_cons (ds_if (db_cmp (od_eq hr.units) (do_var (pv 4)) (do_of de_int) (nomark _)) (dss_one (ds_set (i := 9) sc_Lweb.nd rfl (by first | exact Or.inl rfl | exact Or.inr rfl) (de_bin od_add (do_of (de_bin od_mod (do_var (pv 8)) (do_of de_int))) (do_of (de_bin od_mul (do_of (de_bin od_div (do_var (pv 9)) (do_of de_int))) (do_of de_int)))))) dss_nil)
    (dss_cons (ds_if (db_w (dw_and (db_cmp (od_eq hr.units) (do_var (pv 4)) (do_of de_int) (nomark _)) (dw_and1 (db_cmp (od_eq hr.units) (do_of (de_bin od_mod (do_var (pv 9)) (do_of de_int))) (do_of de_int) (nomark _))))) (dss_one (ds_set (i := 9) sc_Lweb.nd rfl (by first | exact Or.inl rfl | exact Or.inr rfl) (de_var (pv 8)))) dss_nil)
    (dss_one (ds_expr (de_mut PySem.F.plainAttrs_list PySem.F.slot_list_append PySem.F.type_list_append md_append (pv 6) (da_cons (do_of (de_tup (da_cons (do_of (de_var (pv 8))) (da_cons (do_of (de_cb (cd_min2 rfl) (by rfl) z_min (by decide +kernel) (da_cons (do_var (pv 9)) (da_cons (do_of (de_bin od_sub (do_var (pv 3)) (do_of de_int))) da_nil)))) da_nil)))) da_nil))))))))))
    (dss_one (ds_ret (de_tup (da_cons (do_of (de_var (pv 3))) (da_cons (do_of (de_ct cd_tuple (by rfl) z_tuple (by decide +kernel) (da_cons (do_var (pv 6)) da_nil))) da_nil)))))))))))
theorem sc_Lorder : FnScope ["_law_pen_here", "_law_web_here", "_law_rows", "_law_k", "_law_row", "_law_place"] ["_law_pen_here", "_law_web_here"] (defScope s_Lorder) := ⟨rfl, rfl, rfl, by decide +kernel, rfl, by decide +kernel, by decide +kernel⟩
set_option maxHeartbeats 4000000 in
theorem ok_Lorder {k : Nat} {f : Addr} {fd : FuncData} (F : Fun K "_law_order" "_law_order" s_Lorder f fd) {f_Ldraw : Addr} {fd_Ldraw : FuncData} (G_Ldraw : FnOk P w K mg base (L2N.CX P w) k f_Ldraw fd_Ldraw ["_law_pen_here", "_law_many"] (spD K mg sem_Ldraw_de5b 2)) (g_Ldraw : mg "_law_draw" = some (.ref f_Ldraw)) (k_Ldraw : PySem.W.keepIn K (.ref f_Ldraw) = true) (B_Ldraw : Binds K fd_Ldraw ["_law_pen_here", "_law_many"] []) (z_range : mg "range" = none) (z_len : mg "len" = none) (z_max : mg "max" = none) (z_min : mg "min" = none) (z_tuple : mg "tuple" = none) :
    FnOk P w K mg base (L2N.CX P w) (k + 1) f fd ["_law_pen_here", "_law_web_here"] (spD K mg (defSem 2 6 b_Lorder_8e8e) 2) :=
  def_ok (N := ["_law_pen_here", "_law_web_here", "_law_rows", "_law_k", "_law_row", "_law_place"]) F sc_Lorder (by decide) fun cdv A outer s H E hr tk =>
    (dss_cons (ds_setLcL (i := 2) (own := [("_law_place", 5)]) rfl sc_Lorder.nd rfl rfl (sw_true rfl rfl rfl (by decide +kernel)) (di_rng1 (by rfl) z_range (do_of (de_ix ixd_get (do_var (pv 1)) (do_of de_int) (fun _ _ => rfl)))) (blkOk_by (own := [("_law_place", 5)]) (by first | rfl | decide +kernel)) (fun _ _ _ _ _ => (dg_name sc_Lorder.nd rfl (by first | exact Or.inl rfl | exact Or.inr rfl))) (fun _ _ _ _ _ => dts_nil) (fun _ _ _ _ _ => (de_lst da_nil)) (by decide))
    (dss_cons (ds_for (passes_of rfl) rfl (di_rng1 (by rfl) z_range (do_of (de_bin od_mul (do_of de_int) (do_of (de_cb cd_len (by rfl) z_len (by decide +kernel) (da_cons (do_of (de_ix ixd_get (do_var (pv 1)) (do_of de_int) (fun _ _ => rfl))) da_nil)))))) (dg_name sc_Lorder.nd rfl (by first | exact Or.inl rfl | exact Or.inr rfl)) (dss_cons (ds_al sc_Lorder.nd rfl (by first | exact Or.inl rfl | exact Or.inr rfl) (pv 2) (do_of (de_ix ixd_get (do_of (de_ix ixd_get (do_of (de_ix ixd_get (do_var (pv 1)) (do_of de_int) (fun _ _ => rfl))) (do_of (de_bin od_div (do_var (pv 3)) (do_of de_int))) (fun _ _ => rfl))) (do_of (de_bin od_mod (do_var (pv 3)) (do_of de_int))) (fun _ _ => rfl))) (fun _ _ => rfl))
    (dss_one (ds_expr (de_mut PySem.F.plainAttrs_list PySem.F.slot_list_insert PySem.F.type_list_insert md_insert (pv 4) (da_cons (do_of (de_cb (cd_min2 rfl) (by rfl) z_min (by decide +kernel) (da_cons (do_of (de_cb cd_len (by rfl) z_len (by decide +kernel) (da_cons (do_var (pv 4)) da_nil))) (da_cons (do_of (de_bin od_add (do_of de_int) (do_of (de_call tk G_Ldraw hr (by rfl) g_Ldraw k_Ldraw B_Ldraw rfl (da_cons (do_var (pv 0)) (da_cons (do_of (de_cb (cd_max2 rfl) (by rfl) z_max (by decide +kernel) (da_cons (do_of de_int) (da_cons (do_of (de_cb cd_len (by rfl) z_len (by decide +kernel) (da_cons (do_var (pv 4)) da_nil))) da_nil)))) da_nil)))))) da_nil)))) (da_cons (do_of (de_var (pv 3))) da_nil)))))))
    (dss_one (ds_ret (de_ct cd_tuple (by rfl) z_tuple (by decide +kernel) (da_cons (do_of (de_lc (own := [("_law_row", 4)]) rfl sc_Lorder.nd (di_seq (lo := false) (de_var (pv 2))) (blkOk_by (own := [("_law_row", 4)]) (by first | rfl | decide +kernel)) (fun _ _ _ _ _ => (dg_name sc_Lorder.nd rfl (by first | exact Or.inl rfl | exact Or.inr rfl))) (fun _ _ _ _ _ => dts_nil) (fun _ _ _ _ _ => (de_ct cd_tuple (by rfl) z_tuple (by decide +kernel) (da_cons (do_var (pv 4)) da_nil))) (by decide))) da_nil))))))
theorem sc_Lwhole : FnScope ["_law_found"] ["_law_found"] (defScope s_Lwhole) := ⟨rfl, rfl, rfl, by decide +kernel, rfl, by decide +kernel, by decide +kernel⟩
set_option maxHeartbeats 4000000 in
theorem ok_Lwhole {k : Nat} {f : Addr} {fd : FuncData} (F : Fun K "_law_whole" "_law_whole" s_Lwhole f fd) (z_isinstance : mg "isinstance" = none) (z_int : mg "int" = none) (z_bool : mg "bool" = none) :
    FnOk P w K mg base (L2N.CX P w) (k + 1) f fd ["_law_found"] (spD K mg (defSem 1 1 b_Lwhole_6385) 1) :=
  def_ok (N := ["_law_found"]) F sc_Lwhole (by decide) fun cdv A outer s H E hr tk =>
    (dss_one (ds_ret (de_and (de_isi (t := .int) (by rfl) z_isinstance (by rfl) z_int (do_var (pv 0)) (by decide +kernel)) (de_one (de_not (de_isi (t := .bool) (by rfl) z_isinstance (by rfl) z_bool (do_var (pv 0)) (by decide +kernel)))))))
theorem sc_Lsame : FnScope ["_law_found", "_law_due", "_law_one", "_law_other"] ["_law_found", "_law_due"] (defScope s_Lsame) := ⟨rfl, rfl, rfl, by decide +kernel, rfl, by decide +kernel, by decide +kernel⟩
set_option maxHeartbeats 4000000 in
theorem ok_Lsame {k : Nat} {f : Addr} {fd : FuncData} {cs : Sem} (F : Fun K "_law_same" "_law_same" s_Lsame f fd) (G_Lsame : FnOk P w K mg base (L2N.CX P w) k f fd ["_law_found", "_law_due"] (spD K mg cs 2)) (g_Lsame : mg "_law_same" = some (.ref f)) (k_Lsame : PySem.W.keepIn K (.ref f) = true) (B_Lsame : Binds K fd ["_law_found", "_law_due"] []) {f_Lwhole : Addr} {fd_Lwhole : FuncData} (G_Lwhole : FnOk P w K mg base (L2N.CX P w) k f_Lwhole fd_Lwhole ["_law_found"] (spD K mg sem_Lwhole_6385 1)) (g_Lwhole : mg "_law_whole" = some (.ref f_Lwhole)) (k_Lwhole : PySem.W.keepIn K (.ref f_Lwhole) = true) (B_Lwhole : Binds K fd_Lwhole ["_law_found"] []) (z_isinstance : mg "isinstance" = none) (z_tuple : mg "tuple" = none) (z_len : mg "len" = none) (z_zip : mg "zip" = none) (z_all : mg "all" = none) :
    FnOk P w K mg base (L2N.CX P w) (k + 1) f fd ["_law_found", "_law_due"] (spD K mg (defSem 2 4 (b_Lsame_3cff cs)) 2) :=
  def_ok (N := ["_law_found", "_law_due", "_law_one", "_law_other"]) F sc_Lsame (by decide) fun cdv A outer s H E hr tk =>
    (dss_cons (ds_if (db_val (de_isi (t := .tuple) (by rfl) z_isinstance (by rfl) z_tuple (do_var (pv 1)) (by decide +kernel))) (dss_cons (ds_if (db_w (dw_or (db_not (db_val (de_isi (t := .tuple) (by rfl) z_isinstance (by rfl) z_tuple (do_var (pv 0)) (by decide +kernel)))) (dw_or1 (db_cmp (od_ne hr.units) (do_of (de_cb cd_len (by rfl) z_len (by decide +kernel) (da_cons (do_var (pv 0)) da_nil))) (do_of (de_cb cd_len (by rfl) z_len (by decide +kernel) (da_cons (do_var (pv 1)) da_nil))) (nomark _))))) (dss_one (ds_ret de_bl)) dss_nil)
    (dss_one (ds_ret (de_cb (cd_all rfl) (by rfl) z_all (by decide +kernel) (da_cons (do_of (de_lc (own := [("_law_one", 2), ("_law_other", 3)]) rfl sc_Lsame.nd (di_zip (by rfl) z_zip (do_of (de_var (pv 0))) (do_of (de_var (pv 1)))) (blkOk_by (own := [("_law_one", 2), ("_law_other", 3)]) (by first | rfl | decide +kernel)) (fun _ _ _ _ _ => (dg_tup rfl (dgs_cons (dg_name sc_Lsame.nd rfl (by first | exact Or.inl rfl | exact Or.inr rfl)) (dgs_cons (dg_name sc_Lsame.nd rfl (by first | exact Or.inl rfl | exact Or.inr rfl)) dgs_nil)))) (fun _ _ _ _ _ => dts_nil) (fun _ _ _ _ _ => (de_peek takesN0 G_Lsame hr (by rfl) g_Lsame k_Lsame B_Lsame rfl (da_cons (do_var (pv 2)) (da_cons (do_var (pv 3)) da_nil)))) (by decide))) da_nil))))) dss_nil)
    (dss_one (ds_ret (de_and (de_call tk G_Lwhole hr (by rfl) g_Lwhole k_Lwhole B_Lwhole rfl (da_cons (do_var (pv 0)) da_nil)) (de_one (de_cmp (od_eq hr.units) (do_var (pv 0)) (do_var (pv 1)) (nomark _)))))))
theorem oks_Lsame {k : Nat} {f : Addr} {fd : FuncData} (F : Fun K "_law_same" "_law_same" s_Lsame f fd) (g_Lsame : mg "_law_same" = some (.ref f)) (B_Lsame : Binds K fd ["_law_found", "_law_due"] []) {f_Lwhole : Addr} {fd_Lwhole : FuncData} (G_Lwhole : FnOk P w K mg base (L2N.CX P w) k f_Lwhole fd_Lwhole ["_law_found"] (spD K mg sem_Lwhole_6385 1)) (g_Lwhole : mg "_law_whole" = some (.ref f_Lwhole)) (k_Lwhole : PySem.W.keepIn K (.ref f_Lwhole) = true) (B_Lwhole : Binds K fd_Lwhole ["_law_found"] []) (z_isinstance : mg "isinstance" = none) (z_tuple : mg "tuple" = none) (z_len : mg "len" = none) (z_zip : mg "zip" = none) (z_all : mg "all" = none) : ∀ j, FnOk P w K mg base (L2N.CX P w) (k + j) f fd ["_law_found", "_law_due"] (spD K mg (sem_Lsame_3cff j) 2)
  | 0 => fn_none
  | j + 1 => by
    have ih := oks_Lsame (k := k) F g_Lsame B_Lsame G_Lwhole g_Lwhole k_Lwhole B_Lwhole z_isinstance z_tuple z_len z_zip z_all j
    exact ok_Lsame F ih g_Lsame F.kp B_Lsame (G_Lwhole.mono (Nat.le_add_right _ _)) g_Lwhole k_Lwhole B_Lwhole z_isinstance z_tuple z_len z_zip z_all
theorem sc_Ltext : FnScope ["_law_web_here", "_law_order_here", "_law_lines", "_law_place", "_law_a", "_law_b", "_law_end"] ["_law_web_here", "_law_order_here"] (defScope s_Ltext) := ⟨rfl, rfl, rfl, by decide +kernel, rfl, by decide +kernel, by decide +kernel⟩
set_option maxHeartbeats 4000000 in
theorem ok_Ltext {k : Nat} {f : Addr} {fd : FuncData} (F : Fun K "_law_text" "_law_text" s_Ltext f fd) (z_str : mg "str" = none) (z_range : mg "range" = none) (z_len : mg "len" = none) :
    FnOk P w K mg base (L2N.CX P w) (k + 1) f fd ["_law_web_here", "_law_order_here"] (spD K mg (defSem 2 7 b_Ltext_bb53) 2) :=
  def_ok (N := ["_law_web_here", "_law_order_here", "_law_lines", "_law_place", "_law_a", "_law_b", "_law_end"]) F sc_Ltext (by decide) fun cdv A outer s H E hr tk =>
    (dss_cons (ds_set (i := 2) sc_Ltext.nd rfl (by first | exact Or.inl rfl | exact Or.inr rfl) (de_lst (da_cons (do_of (de_bin od_addS (do_of de_str) (do_of (de_ct cd_strI (by rfl) z_str (by decide +kernel) (da_cons (do_of (de_ix ixd_get (do_var (pv 0)) (do_of de_int) (fun _ _ => rfl))) da_nil))))) da_nil)))
    (dss_cons (ds_for (passes_of rfl) rfl (di_seq (lo := false) (de_ix ixd_get (do_var (pv 0)) (do_of de_int) (fun _ _ => rfl))) (dg_tup rfl (dgs_cons (dg_name sc_Ltext.nd rfl (by first | exact Or.inl rfl | exact Or.inr rfl)) (dgs_cons (dg_name sc_Ltext.nd rfl (by first | exact Or.inl rfl | exact Or.inr rfl)) dgs_nil))) (dss_one (ds_expr (de_mut PySem.F.plainAttrs_list PySem.F.slot_list_append PySem.F.type_list_append md_append (pv 2) (da_cons (do_of (de_bin od_addS (do_of (de_bin od_addS (do_of (de_bin od_addS (do_of de_str) (do_of (de_ct cd_strI (by rfl) z_str (by decide +kernel) (da_cons (do_var (pv 4)) da_nil))))) (do_of de_str))) (do_of (de_ct cd_strI (by rfl) z_str (by decide +kernel) (da_cons (do_var (pv 5)) da_nil))))) da_nil)))))
    (dss_cons (ds_for (passes_of rfl) rfl (di_rng1 (by rfl) z_range (do_of (de_ix ixd_get (do_var (pv 0)) (do_of de_int) (fun _ _ => rfl)))) (dg_name sc_Ltext.nd rfl (by first | exact Or.inl rfl | exact Or.inr rfl)) (dss_one (ds_if (db_cmp od_gt (do_of (de_cb cd_len (by rfl) z_len (by decide +kernel) (da_cons (do_of (de_ix ixd_get (do_var (pv 1)) (do_var (pv 3)) (fun _ _ => rfl))) da_nil))) (do_of de_int) (nomark _)) (dss_one (ds_expr (de_mut PySem.F.plainAttrs_list PySem.F.slot_list_append PySem.F.type_list_append md_append (pv 2) (da_cons (do_of (de_bin od_addS (do_of (de_bin od_addS (do_of de_str) (do_of (de_ct cd_strI (by rfl) z_str (by decide +kernel) (da_cons (do_var (pv 3)) da_nil))))) (do_of (de_join (do_of (de_lc (own := [("_law_end", 6)]) rfl sc_Ltext.nd (di_seq (lo := false) (de_ix ixd_get (do_var (pv 1)) (do_var (pv 3)) (fun _ _ => rfl))) (blkOk_by (own := [("_law_end", 6)]) (by first | rfl | decide +kernel)) (fun _ _ _ _ _ => (dg_name sc_Ltext.nd rfl (by first | exact Or.inl rfl | exact Or.inr rfl))) (fun _ _ _ _ _ => dts_nil) (fun _ _ _ _ _ => (de_bin od_addS (do_of de_str) (do_of (de_ct cd_strI (by rfl) z_str (by decide +kernel) (da_cons (do_var (pv 6)) da_nil))))) (by decide))))))) da_nil)))) dss_nil)))
    (dss_one (ds_ret (de_join (do_var (pv 2))))))))
theorem sc_Lkinds : FnScope ["_law_e", "_law_found", "_law_k"] ["_law_e"] (defScope s_Lkinds) := ⟨rfl, rfl, rfl, by decide +kernel, rfl, by decide +kernel, by decide +kernel⟩
set_option maxHeartbeats 4000000 in
theorem okk_KRNoText_4390 {k : Nat} {f : Addr} {fd : FuncData} (F : Fun K "_law_kinds" "_law_kinds" s_Lkinds f fd) (z_isinstance : mg "isinstance" = none) (z_range : mg "range" = none) (z_ValueError : mg "ValueError" = none) {C_NoText : Addr} {C_NoWeb : Addr} {C_NoOrder : Addr} {C_NoNumber : Addr} {C_NoEnd : Addr} {C_NoTie : Addr} {C_NoPlace : Addr} {C_NoTable : Addr} {C_NoRing : Addr} {C_NoPaper : Addr} {C_Apart : Addr} {C_TooMany : Addr} {C_TooGreat : Addr} {C_NoName : Addr} {C_NoRow : Addr} (gx_NoWeb : mg "NoWeb" = some (.ref C_NoWeb)) (xc_NoText : ExcC K C_NoText) (kk_NoText_NoWeb : PySem.W.kitOne K (.ref C_NoText) (.ref C_NoWeb) = some false) (gx_NoOrder : mg "NoOrder" = some (.ref C_NoOrder)) (kk_NoText_NoOrder : PySem.W.kitOne K (.ref C_NoText) (.ref C_NoOrder) = some false) (gx_NoNumber : mg "NoNumber" = some (.ref C_NoNumber)) (kk_NoText_NoNumber : PySem.W.kitOne K (.ref C_NoText) (.ref C_NoNumber) = some false) (gx_NoEnd : mg "NoEnd" = some (.ref C_NoEnd)) (kk_NoText_NoEnd : PySem.W.kitOne K (.ref C_NoText) (.ref C_NoEnd) = some false) (gx_NoTie : mg "NoTie" = some (.ref C_NoTie)) (kk_NoText_NoTie : PySem.W.kitOne K (.ref C_NoText) (.ref C_NoTie) = some false) (gx_NoPlace : mg "NoPlace" = some (.ref C_NoPlace)) (kk_NoText_NoPlace : PySem.W.kitOne K (.ref C_NoText) (.ref C_NoPlace) = some false) (gx_NoTable : mg "NoTable" = some (.ref C_NoTable)) (kk_NoText_NoTable : PySem.W.kitOne K (.ref C_NoText) (.ref C_NoTable) = some false) (gx_NoRing : mg "NoRing" = some (.ref C_NoRing)) (kk_NoText_NoRing : PySem.W.kitOne K (.ref C_NoText) (.ref C_NoRing) = some false) (gx_NoPaper : mg "NoPaper" = some (.ref C_NoPaper)) (kk_NoText_NoPaper : PySem.W.kitOne K (.ref C_NoText) (.ref C_NoPaper) = some false) (gx_Apart : mg "Apart" = some (.ref C_Apart)) (kk_NoText_Apart : PySem.W.kitOne K (.ref C_NoText) (.ref C_Apart) = some false) (gx_TooMany : mg "TooMany" = some (.ref C_TooMany)) (kk_NoText_TooMany : PySem.W.kitOne K (.ref C_NoText) (.ref C_TooMany) = some false) (gx_TooGreat : mg "TooGreat" = some (.ref C_TooGreat)) (kk_NoText_TooGreat : PySem.W.kitOne K (.ref C_NoText) (.ref C_TooGreat) = some false) (gx_NoText : mg "NoText" = some (.ref C_NoText)) (kk_NoText_NoText : PySem.W.kitOne K (.ref C_NoText) (.ref C_NoText) = some true) (gx_NoName : mg "NoName" = some (.ref C_NoName)) (kk_NoText_NoName : PySem.W.kitOne K (.ref C_NoText) (.ref C_NoName) = some false) (gx_NoRow : mg "NoRow" = some (.ref C_NoRow)) (kk_NoText_NoRow : PySem.W.kitOne K (.ref C_NoText) (.ref C_NoRow) = some false) (kk_NoText_ValueError : PySem.W.kitOne K (.ref C_NoText) (.type "ValueError") = some true) :
    FnW2 P w K mg base (k + 1) f fd "_law_e" C_NoText sem_KRNoText_4390 :=
  fnw2_of (N := ["_law_e", "_law_found", "_law_k"]) (body := b_KRNoText_4390) F sc_Lkinds (by decide) fun cdv A outer s H E p q hot hr hz hf =>
    (show PSs _ _ (tX _ _ 0 p.1 b_KRNoText_4390) from (dxx_set (j := 1) sc_Lkinds.nd rfl (by first | exact Or.inl rfl | exact Or.inr rfl) (dex_lst (dax_cons (dex_isP (List.mem_cons.mpr (.inl rfl)) (List.mem_cons.mpr (.inr (List.mem_singleton.mpr rfl))) xc_NoText hz hf (by rfl) z_isinstance (pv 0) (pe_glob (v := .ref C_NoWeb) (by rfl) gx_NoWeb rfl) (.own _) kk_NoText_NoWeb) (dax_cons (dex_isP (List.mem_cons.mpr (.inl rfl)) (List.mem_cons.mpr (.inr (List.mem_singleton.mpr rfl))) xc_NoText hz hf (by rfl) z_isinstance (pv 0) (pe_glob (v := .ref C_NoOrder) (by rfl) gx_NoOrder rfl) (.own _) kk_NoText_NoOrder) (dax_cons (dex_isP (List.mem_cons.mpr (.inl rfl)) (List.mem_cons.mpr (.inr (List.mem_singleton.mpr rfl))) xc_NoText hz hf (by rfl) z_isinstance (pv 0) (pe_glob (v := .ref C_NoNumber) (by rfl) gx_NoNumber rfl) (.own _) kk_NoText_NoNumber) (dax_cons (dex_isP (List.mem_cons.mpr (.inl rfl)) (List.mem_cons.mpr (.inr (List.mem_singleton.mpr rfl))) xc_NoText hz hf (by rfl) z_isinstance (pv 0) (pe_glob (v := .ref C_NoEnd) (by rfl) gx_NoEnd rfl) (.own _) kk_NoText_NoEnd) dax_nil))))) (dxx_set (j := 1) sc_Lkinds.nd rfl (by first | exact Or.inl rfl | exact Or.inr rfl) (dex_bin od_add (do_var (pv 1)) (dex_lst (dax_cons (dex_isP (List.mem_cons.mpr (.inl rfl)) (List.mem_cons.mpr (.inr (List.mem_singleton.mpr rfl))) xc_NoText hz hf (by rfl) z_isinstance (pv 0) (pe_glob (v := .ref C_NoTie) (by rfl) gx_NoTie rfl) (.own _) kk_NoText_NoTie) (dax_cons (dex_isP (List.mem_cons.mpr (.inl rfl)) (List.mem_cons.mpr (.inr (List.mem_singleton.mpr rfl))) xc_NoText hz hf (by rfl) z_isinstance (pv 0) (pe_glob (v := .ref C_NoPlace) (by rfl) gx_NoPlace rfl) (.own _) kk_NoText_NoPlace) (dax_cons (dex_isP (List.mem_cons.mpr (.inl rfl)) (List.mem_cons.mpr (.inr (List.mem_singleton.mpr rfl))) xc_NoText hz hf (by rfl) z_isinstance (pv 0) (pe_glob (v := .ref C_NoTable) (by rfl) gx_NoTable rfl) (.own _) kk_NoText_NoTable) (dax_cons (dex_isP (List.mem_cons.mpr (.inl rfl)) (List.mem_cons.mpr (.inr (List.mem_singleton.mpr rfl))) xc_NoText hz hf (by rfl) z_isinstance (pv 0) (pe_glob (v := .ref C_NoRing) (by rfl) gx_NoRing rfl) (.own _) kk_NoText_NoRing) dax_nil)))))) (dxx_set (j := 1) sc_Lkinds.nd rfl (by first | exact Or.inl rfl | exact Or.inr rfl) (dex_bin od_add (do_var (pv 1)) (dex_lst (dax_cons (dex_isP (List.mem_cons.mpr (.inl rfl)) (List.mem_cons.mpr (.inr (List.mem_singleton.mpr rfl))) xc_NoText hz hf (by rfl) z_isinstance (pv 0) (pe_glob (v := .ref C_NoPaper) (by rfl) gx_NoPaper rfl) (.own _) kk_NoText_NoPaper) (dax_cons (dex_isP (List.mem_cons.mpr (.inl rfl)) (List.mem_cons.mpr (.inr (List.mem_singleton.mpr rfl))) xc_NoText hz hf (by rfl) z_isinstance (pv 0) (pe_glob (v := .ref C_Apart) (by rfl) gx_Apart rfl) (.own _) kk_NoText_Apart) (dax_cons (dex_isP (List.mem_cons.mpr (.inl rfl)) (List.mem_cons.mpr (.inr (List.mem_singleton.mpr rfl))) xc_NoText hz hf (by rfl) z_isinstance (pv 0) (pe_glob (v := .ref C_TooMany) (by rfl) gx_TooMany rfl) (.own _) kk_NoText_TooMany) (dax_cons (dex_isP (List.mem_cons.mpr (.inl rfl)) (List.mem_cons.mpr (.inr (List.mem_singleton.mpr rfl))) xc_NoText hz hf (by rfl) z_isinstance (pv 0) (pe_glob (v := .ref C_TooGreat) (by rfl) gx_TooGreat rfl) (.own _) kk_NoText_TooGreat) dax_nil)))))) (dxx_set (j := 1) sc_Lkinds.nd rfl (by first | exact Or.inl rfl | exact Or.inr rfl) (dex_bin od_add (do_var (pv 1)) (dex_lst (dax_cons (dex_isP (List.mem_cons.mpr (.inl rfl)) (List.mem_cons.mpr (.inr (List.mem_singleton.mpr rfl))) xc_NoText hz hf (by rfl) z_isinstance (pv 0) (pe_glob (v := .ref C_NoText) (by rfl) gx_NoText rfl) (.own _) kk_NoText_NoText) (dax_cons (dex_isP (List.mem_cons.mpr (.inl rfl)) (List.mem_cons.mpr (.inr (List.mem_singleton.mpr rfl))) xc_NoText hz hf (by rfl) z_isinstance (pv 0) (pe_glob (v := .ref C_NoName) (by rfl) gx_NoName rfl) (.own _) kk_NoText_NoName) (dax_cons (dex_isP (List.mem_cons.mpr (.inl rfl)) (List.mem_cons.mpr (.inr (List.mem_singleton.mpr rfl))) xc_NoText hz hf (by rfl) z_isinstance (pv 0) (pe_glob (v := .ref C_NoRow) (by rfl) gx_NoRow rfl) (.own _) kk_NoText_NoRow) dax_nil))))) (dxx_ret (dex_lcK (lo := false) (own := [("_law_k", 2)]) (hot_wordP hot) sc_Lkinds.nd (dik_rng1 (by rfl) z_range (do_of de_int)) (blkOk_by (own := [("_law_k", 2)]) (by first | rfl | decide +kernel)) (fun _ _ _ _ _ => (dg_name sc_Lkinds.nd rfl (by first | exact Or.inl rfl | exact Or.inr rfl))) (fun _ _ _ _ _ pin => (dtx_one (dbx_w (dwx_and (dbx_of (db_val (de_ix ixd_get (do_var (pv 1)) (do_var (pv 2)) (fun _ _ => rfl)))) (dwx_and1 (dbx_val (dex_isB (pin _ (List.mem_cons.mpr (.inl rfl))) (pin _ (List.mem_cons.mpr (.inr (List.mem_singleton.mpr rfl)))) xc_NoText hz hf (by rfl) z_isinstance (pv 0) (pe_bltn (v := .ty "ValueError") (by rfl) z_ValueError (by rfl) rfl) (.ty _) kk_NoText_ValueError))))))) (fun _ _ _ _ _ => (de_var (pv 2))) (by decide) (by decide))))))))
set_option maxHeartbeats 4000000 in
theorem ok_Lkinds {k : Nat} {f : Addr} {fd : FuncData} (F : Fun K "_law_kinds" "_law_kinds" s_Lkinds f fd) (z_isinstance : mg "isinstance" = none) (z_range : mg "range" = none) (z_ValueError : mg "ValueError" = none) {C_NoWeb : Addr} {C_NoText : Addr} {C_NoOrder : Addr} {C_NoNumber : Addr} {C_NoEnd : Addr} {C_NoTie : Addr} {C_NoPlace : Addr} {C_NoTable : Addr} {C_NoRing : Addr} {C_NoPaper : Addr} {C_Apart : Addr} {C_TooMany : Addr} {C_TooGreat : Addr} {C_NoName : Addr} {C_NoRow : Addr} (gx_NoWeb : mg "NoWeb" = some (.ref C_NoWeb)) (xn_NoText : PySem.W.nsIn K mainGlobals "NoText" = some (some (.ref C_NoText))) (xc_NoText : ExcC K C_NoText) (kk_NoText_NoWeb : PySem.W.kitOne K (.ref C_NoText) (.ref C_NoWeb) = some false) (gx_NoOrder : mg "NoOrder" = some (.ref C_NoOrder)) (kk_NoText_NoOrder : PySem.W.kitOne K (.ref C_NoText) (.ref C_NoOrder) = some false) (gx_NoNumber : mg "NoNumber" = some (.ref C_NoNumber)) (kk_NoText_NoNumber : PySem.W.kitOne K (.ref C_NoText) (.ref C_NoNumber) = some false) (gx_NoEnd : mg "NoEnd" = some (.ref C_NoEnd)) (kk_NoText_NoEnd : PySem.W.kitOne K (.ref C_NoText) (.ref C_NoEnd) = some false) (gx_NoTie : mg "NoTie" = some (.ref C_NoTie)) (kk_NoText_NoTie : PySem.W.kitOne K (.ref C_NoText) (.ref C_NoTie) = some false) (gx_NoPlace : mg "NoPlace" = some (.ref C_NoPlace)) (kk_NoText_NoPlace : PySem.W.kitOne K (.ref C_NoText) (.ref C_NoPlace) = some false) (gx_NoTable : mg "NoTable" = some (.ref C_NoTable)) (kk_NoText_NoTable : PySem.W.kitOne K (.ref C_NoText) (.ref C_NoTable) = some false) (gx_NoRing : mg "NoRing" = some (.ref C_NoRing)) (kk_NoText_NoRing : PySem.W.kitOne K (.ref C_NoText) (.ref C_NoRing) = some false) (gx_NoPaper : mg "NoPaper" = some (.ref C_NoPaper)) (kk_NoText_NoPaper : PySem.W.kitOne K (.ref C_NoText) (.ref C_NoPaper) = some false) (gx_Apart : mg "Apart" = some (.ref C_Apart)) (kk_NoText_Apart : PySem.W.kitOne K (.ref C_NoText) (.ref C_Apart) = some false) (gx_TooMany : mg "TooMany" = some (.ref C_TooMany)) (kk_NoText_TooMany : PySem.W.kitOne K (.ref C_NoText) (.ref C_TooMany) = some false) (gx_TooGreat : mg "TooGreat" = some (.ref C_TooGreat)) (kk_NoText_TooGreat : PySem.W.kitOne K (.ref C_NoText) (.ref C_TooGreat) = some false) (gx_NoText : mg "NoText" = some (.ref C_NoText)) (kk_NoText_NoText : PySem.W.kitOne K (.ref C_NoText) (.ref C_NoText) = some true) (gx_NoName : mg "NoName" = some (.ref C_NoName)) (kk_NoText_NoName : PySem.W.kitOne K (.ref C_NoText) (.ref C_NoName) = some false) (gx_NoRow : mg "NoRow" = some (.ref C_NoRow)) (kk_NoText_NoRow : PySem.W.kitOne K (.ref C_NoText) (.ref C_NoRow) = some false) (kk_NoText_ValueError : PySem.W.kitOne K (.ref C_NoText) (.type "ValueError") = some true) :
    FnOk P w K mg base (L2N.CX P w) (k + 1) f fd ["_law_e"] (spD K mg (defSem 1 3 b_Lkinds_aa30) 1) :=
  def_ok (N := ["_law_e", "_law_found", "_law_k"]) F sc_Lkinds (by decide) fun cdv A outer s H E hr tk =>
    (dss_cons (ds_set (i := 1) sc_Lkinds.nd rfl (by first | exact Or.inl rfl | exact Or.inr rfl) (de_lst (da_cons (do_of (de_isX (by rfl) z_isinstance (pv 0) (pe_glob (v := .ref C_NoWeb) (by rfl) gx_NoWeb rfl) (.own _) (isTab_one xn_NoText xc_NoText kk_NoText_NoWeb))) (da_cons (do_of (de_isX (by rfl) z_isinstance (pv 0) (pe_glob (v := .ref C_NoOrder) (by rfl) gx_NoOrder rfl) (.own _) (isTab_one xn_NoText xc_NoText kk_NoText_NoOrder))) (da_cons (do_of (de_isX (by rfl) z_isinstance (pv 0) (pe_glob (v := .ref C_NoNumber) (by rfl) gx_NoNumber rfl) (.own _) (isTab_one xn_NoText xc_NoText kk_NoText_NoNumber))) (da_cons (do_of (de_isX (by rfl) z_isinstance (pv 0) (pe_glob (v := .ref C_NoEnd) (by rfl) gx_NoEnd rfl) (.own _) (isTab_one xn_NoText xc_NoText kk_NoText_NoEnd))) da_nil))))))
    (dss_cons (ds_set (i := 1) sc_Lkinds.nd rfl (by first | exact Or.inl rfl | exact Or.inr rfl) (de_bin od_add (do_var (pv 1)) (do_of (de_lst (da_cons (do_of (de_isX (by rfl) z_isinstance (pv 0) (pe_glob (v := .ref C_NoTie) (by rfl) gx_NoTie rfl) (.own _) (isTab_one xn_NoText xc_NoText kk_NoText_NoTie))) (da_cons (do_of (de_isX (by rfl) z_isinstance (pv 0) (pe_glob (v := .ref C_NoPlace) (by rfl) gx_NoPlace rfl) (.own _) (isTab_one xn_NoText xc_NoText kk_NoText_NoPlace))) (da_cons (do_of (de_isX (by rfl) z_isinstance (pv 0) (pe_glob (v := .ref C_NoTable) (by rfl) gx_NoTable rfl) (.own _) (isTab_one xn_NoText xc_NoText kk_NoText_NoTable))) (da_cons (do_of (de_isX (by rfl) z_isinstance (pv 0) (pe_glob (v := .ref C_NoRing) (by rfl) gx_NoRing rfl) (.own _) (isTab_one xn_NoText xc_NoText kk_NoText_NoRing))) da_nil))))))))
    (dss_cons (ds_set (i := 1) sc_Lkinds.nd rfl (by first | exact Or.inl rfl | exact Or.inr rfl) (de_bin od_add (do_var (pv 1)) (do_of (de_lst (da_cons (do_of (de_isX (by rfl) z_isinstance (pv 0) (pe_glob (v := .ref C_NoPaper) (by rfl) gx_NoPaper rfl) (.own _) (isTab_one xn_NoText xc_NoText kk_NoText_NoPaper))) (da_cons (do_of (de_isX (by rfl) z_isinstance (pv 0) (pe_glob (v := .ref C_Apart) (by rfl) gx_Apart rfl) (.own _) (isTab_one xn_NoText xc_NoText kk_NoText_Apart))) (da_cons (do_of (de_isX (by rfl) z_isinstance (pv 0) (pe_glob (v := .ref C_TooMany) (by rfl) gx_TooMany rfl) (.own _) (isTab_one xn_NoText xc_NoText kk_NoText_TooMany))) (da_cons (do_of (de_isX (by rfl) z_isinstance (pv 0) (pe_glob (v := .ref C_TooGreat) (by rfl) gx_TooGreat rfl) (.own _) (isTab_one xn_NoText xc_NoText kk_NoText_TooGreat))) da_nil))))))))
    (dss_cons (ds_set (i := 1) sc_Lkinds.nd rfl (by first | exact Or.inl rfl | exact Or.inr rfl) (de_bin od_add (do_var (pv 1)) (do_of (de_lst (da_cons (do_of (de_isX (by rfl) z_isinstance (pv 0) (pe_glob (v := .ref C_NoText) (by rfl) gx_NoText rfl) (.own _) (isTab_one xn_NoText xc_NoText kk_NoText_NoText))) (da_cons (do_of (de_isX (by rfl) z_isinstance (pv 0) (pe_glob (v := .ref C_NoName) (by rfl) gx_NoName rfl) (.own _) (isTab_one xn_NoText xc_NoText kk_NoText_NoName))) (da_cons (do_of (de_isX (by rfl) z_isinstance (pv 0) (pe_glob (v := .ref C_NoRow) (by rfl) gx_NoRow rfl) (.own _) (isTab_one xn_NoText xc_NoText kk_NoText_NoRow))) da_nil)))))))
    (dss_one (ds_ret (de_lc (own := [("_law_k", 2)]) rfl sc_Lkinds.nd (di_rng1 (by rfl) z_range (do_of de_int)) (blkOk_by (own := [("_law_k", 2)]) (by first | rfl | decide +kernel)) (fun _ _ _ _ _ => (dg_name sc_Lkinds.nd rfl (by first | exact Or.inl rfl | exact Or.inr rfl))) (fun _ _ _ _ _ => (dts_one (db_w (dw_and (db_val (de_ix ixd_get (do_var (pv 1)) (do_var (pv 2)) (fun _ _ => rfl))) (dw_and1 (db_val (de_isX (by rfl) z_isinstance (pv 0) (pe_bltn (v := .ty "ValueError") (by rfl) z_ValueError (by rfl) rfl) (.ty _) (isTab_one xn_NoText xc_NoText kk_NoText_ValueError)))))))) (fun _ _ _ _ _ => (de_var (pv 2))) (by decide))))))))
theorem sc_Lread : FnScope ["_law_text_here", "_law_e"] ["_law_text_here"] (defScope s_Lread) := ⟨rfl, rfl, rfl, by decide +kernel, rfl, by decide +kernel, by decide +kernel⟩
set_option maxHeartbeats 4000000 in
theorem ok_Lread {k : Nat} {f : Addr} {fd : FuncData} (F : Fun K "_law_read" "_law_read" s_Lread f fd) {f_read : Addr} {fd_read : FuncData} (G_read : FnOk P w K mg base (L2N.CX P w) k f_read fd_read ["text"] (spD K mg sem_read_4cf3R 1)) (g_read : mg "read" = some (.ref f_read)) (k_read : PySem.W.keepIn K (.ref f_read) = true) (B_read : Binds K fd_read ["text"] []) {C_NoText : Addr} {C_FloorError : Addr} (xc_NoText : ExcC K C_NoText) (xv_NoText : PySem.W.findIn K (.ref C_NoText) "row" = some none) (gx_NoText : mg "NoText" = some (.ref C_NoText)) (xe_NoText_FloorError : PySem.W.exmOne K (.ref C_NoText) (.ref C_FloorError) = some true) (gx_FloorError : mg "FloorError" = some (.ref C_FloorError)) {f_Lkinds : Addr} {fd_Lkinds : FuncData} (g_Lkinds : mg "_law_kinds" = some (.ref f_Lkinds)) (k_Lkinds : PySem.W.keepIn K (.ref f_Lkinds) = true) (B_Lkinds : Binds K fd_Lkinds ["_law_e"] []) (KR_NoText : FnW2 P w K mg base k f_Lkinds fd_Lkinds "_law_e" C_NoText sem_KRNoText_4390) :
    FnOk P w K mg base (L2N.CX P w) (k + 1) f fd ["_law_text_here"] (spD K mg (defSem 1 2 b_Lread_4f6eR) 1) :=
  def_ok (N := ["_law_text_here", "_law_e"]) F sc_Lread (by decide) fun cdv A outer s H E hr tk =>
    (dss_cons (ds_tryD (i := 1) (L := ["NoText"]) (m0 := fun n => sStuck) (m1 := fun n row => (sSeq (sIf (mTst (mOp gEq [(oE (mCall sem_KRNoText_4390 [])), (oE (mOp gLst [(oE (mC (.int 12)))]))])) (sRet (mOp gLst [(oE (mC (.int row)))])) sNx) sNx)) rfl rfl sc_Lread.nd rfl rfl ⟨by rfl, by decide, .inl gx_FloorError⟩ tk (fun _ _ _ tk _ => (dss_one (ds_ret (de_call tk G_read hr (by rfl) g_read k_read B_read rfl (da_cons (do_var (pv 0)) da_nil))))) (one_cons (P := fun _ C => PySem.W.exmOne _ (.ref C) _ = some true) gx_NoText xe_NoText_FloorError one_nil) (suites_cons gx_NoText (by exact suiteN_stuck) (by exact (fun row a dd oe od pn hz hf hv => (dxx_ifRetX (dbx_cmp (od_eq hr.units) (dex_wordD KR_NoText hr hz hf (by rfl) g_Lkinds k_Lkinds B_Lkinds (pv 1)) (do_of (de_lst (da_cons (do_of de_int) da_nil))) (nomark _)) (dex_lst (dax_cons (dex_row (List.mem_cons.mpr (.inl rfl)) (List.mem_cons.mpr (.inr (List.mem_cons.mpr (.inl rfl)))) (xf_of xc_NoText) xv_NoText hz hf hv (pv 1)) dax_nil)) dxx_nil))) suites_nil))
    (dss_one (ds_ret (de_lst da_nil))))
theorem sc_law : FnScope ["_law_script", "_law_pen_here", "_law_web_here", "_law_floor", "_law_text_here", "_law_some", "_law_k", "_law_number", "_law_made", "_law_thing", "_law_kept", "_law_found"] ["_law_script"] (defScope s_law) := ⟨rfl, rfl, rfl, by decide +kernel, rfl, by decide +kernel, by decide +kernel⟩
set_option maxHeartbeats 4000000 in
theorem ok_law {k : Nat} {A0 : Around} (hA : Room (k + 1) A0) (hAG : A0.guards = some []) {f : Addr} {fd : FuncData} (F : Fun K "law" "law" s_law f fd) {f_Lpen : Addr} {fd_Lpen : FuncData} (G_Lpen : FnOk P w K mg base (L2N.CX P w) k f_Lpen fd_Lpen ["_law_script"] (spD K mg sem_Lpen_3d2f 1)) (g_Lpen : mg "_law_pen" = some (.ref f_Lpen)) (k_Lpen : PySem.W.keepIn K (.ref f_Lpen) = true) (B_Lpen : Binds K fd_Lpen ["_law_script"] []) {f_Lweb : Addr} {fd_Lweb : FuncData} (G_Lweb : FnOk P w K mg base (L2N.CX P w) k f_Lweb fd_Lweb ["_law_pen_here", "_law_places", "_law_ties"] (spD K mg sem_Lweb_0350 3)) (g_Lweb : mg "_law_web" = some (.ref f_Lweb)) (k_Lweb : PySem.W.keepIn K (.ref f_Lweb) = true) (B_Lweb : Binds K fd_Lweb ["_law_pen_here", "_law_places", "_law_ties"] []) {f_Lorder : Addr} {fd_Lorder : FuncData} (G_Lorder : FnOk P w K mg base (L2N.CX P w) k f_Lorder fd_Lorder ["_law_pen_here", "_law_web_here"] (spD K mg sem_Lorder_8e8e 2)) (g_Lorder : mg "_law_order" = some (.ref f_Lorder)) (k_Lorder : PySem.W.keepIn K (.ref f_Lorder) = true) (B_Lorder : Binds K fd_Lorder ["_law_pen_here", "_law_web_here"] []) {f_Ltext : Addr} {fd_Ltext : FuncData} (G_Ltext : FnOk P w K mg base (L2N.CX P w) k f_Ltext fd_Ltext ["_law_web_here", "_law_order_here"] (spD K mg sem_Ltext_bb53 2)) (g_Ltext : mg "_law_text" = some (.ref f_Ltext)) (k_Ltext : PySem.W.keepIn K (.ref f_Ltext) = true) (B_Ltext : Binds K fd_Ltext ["_law_web_here", "_law_order_here"] []) {f_Ldraw : Addr} {fd_Ldraw : FuncData} (G_Ldraw : FnOk P w K mg base (L2N.CX P w) k f_Ldraw fd_Ldraw ["_law_pen_here", "_law_many"] (spD K mg sem_Ldraw_de5b 2)) (g_Ldraw : mg "_law_draw" = some (.ref f_Ldraw)) (k_Ldraw : PySem.W.keepIn K (.ref f_Ldraw) = true) (B_Ldraw : Binds K fd_Ldraw ["_law_pen_here", "_law_many"] []) {f_Lread : Addr} {fd_Lread : FuncData} (G_Lread : FnOk P w K mg base (L2N.CX P w) k f_Lread fd_Lread ["_law_text_here"] (spD K mg sem_Lread_4f6eR 1)) (g_Lread : mg "_law_read" = some (.ref f_Lread)) (k_Lread : PySem.W.keepIn K (.ref f_Lread) = true) (B_Lread : Binds K fd_Lread ["_law_text_here"] []) {f_Lwhole : Addr} {fd_Lwhole : FuncData} (G_Lwhole : FnOk P w K mg base (L2N.CX P w) k f_Lwhole fd_Lwhole ["_law_found"] (spD K mg sem_Lwhole_6385 1)) (g_Lwhole : mg "_law_whole" = some (.ref f_Lwhole)) (k_Lwhole : PySem.W.keepIn K (.ref f_Lwhole) = true) (B_Lwhole : Binds K fd_Lwhole ["_law_found"] []) {f_Lsame : Addr} {fd_Lsame : FuncData} (G_Lsame : FnOk P w K mg base (L2N.CX P w) k f_Lsame fd_Lsame ["_law_found", "_law_due"] (spD K mg (sem_Lsame_3cff 6) 2)) (g_Lsame : mg "_law_same" = some (.ref f_Lsame)) (k_Lsame : PySem.W.keepIn K (.ref f_Lsame) = true) (B_Lsame : Binds K fd_Lsame ["_law_found", "_law_due"] []) {f_read : Addr} {fd_read : FuncData} (G_read : FnOk P w K mg base (L2N.CX P w) k f_read fd_read ["text"] (spD K mg sem_read_4cf3R 1)) (g_read : mg "read" = some (.ref f_read)) (k_read : PySem.W.keepIn K (.ref f_read) = true) (B_read : Binds K fd_read ["text"] []) {f_Lkinds : Addr} {fd_Lkinds : FuncData} (G_Lkinds : FnOk P w K mg base (L2N.CX P w) k f_Lkinds fd_Lkinds ["_law_e"] (spD K mg sem_Lkinds_aa30 1)) (g_Lkinds : mg "_law_kinds" = some (.ref f_Lkinds)) (k_Lkinds : PySem.W.keepIn K (.ref f_Lkinds) = true) (B_Lkinds : Binds K fd_Lkinds ["_law_e"] []) (z_range : mg "range" = none) (z_repr : mg "repr" = none) (z_isinstance : mg "isinstance" = none) {C_NoText : Addr} {C_FloorError : Addr} (xr_NoText : RowE P w K mg base "NoText" C_NoText) (xn_NoText : PySem.W.nsIn K mainGlobals "NoText" = some (some (.ref C_NoText))) (gx_FloorError : mg "FloorError" = some (.ref C_FloorError)) (xc_NoText : ExcC K C_NoText) (kk_NoText_FloorError : PySem.W.kitOne K (.ref C_NoText) (.ref C_FloorError) = some true) (xv_NoText : PySem.W.findIn K (.ref C_NoText) "row" = some none) (hk2 : 2 ≤ k) :
    FnAt P w K mg base A0 f fd ["_law_script"] (spD K mg (defSem 1 12 b_law_9135R) 1) :=
  def_at hA hAG (N := ["_law_script", "_law_pen_here", "_law_web_here", "_law_floor", "_law_text_here", "_law_some", "_law_k", "_law_number", "_law_made", "_law_thing", "_law_kept", "_law_found"]) F sc_law (by decide) fun cdv A outer s H E hr hG tk =>
    (dss_cons (ds_set (i := 1) sc_law.nd rfl (by first | exact Or.inl rfl | exact Or.inr rfl) (de_call tk G_Lpen hr (by rfl) g_Lpen k_Lpen B_Lpen rfl (da_cons (do_var (pv 0)) da_nil)))
    (dss_cons (ds_set (i := 2) sc_law.nd rfl (by first | exact Or.inl rfl | exact Or.inr rfl) (de_call tk G_Lweb hr (by rfl) g_Lweb k_Lweb B_Lweb rfl (da_cons (do_var (pv 1)) (da_cons (do_of de_int) (da_cons (do_of de_int) da_nil)))))
    (dss_cons (ds_set (i := 3) sc_law.nd rfl (by first | exact Or.inl rfl | exact Or.inr rfl) (de_tup (da_cons (do_of (de_var (pv 2))) (da_cons (do_of (de_call tk G_Lorder hr (by rfl) g_Lorder k_Lorder B_Lorder rfl (da_cons (do_var (pv 1)) (da_cons (do_var (pv 2)) da_nil)))) da_nil))))
    (dss_cons (ds_set (i := 4) sc_law.nd rfl (by first | exact Or.inl rfl | exact Or.inr rfl) (de_call tk G_Ltext hr (by rfl) g_Ltext k_Ltext B_Ltext rfl (da_cons (do_of (de_ix ixd_get (do_var (pv 3)) (do_of de_int) (fun _ _ => rfl))) (da_cons (do_of (de_ix ixd_get (do_var (pv 3)) (do_of de_int) (fun _ _ => rfl))) da_nil))))
    (dss_cons (ds_set (i := 5) sc_law.nd rfl (by first | exact Or.inl rfl | exact Or.inr rfl) (de_lst (da_cons (do_of de_non) (da_cons (do_of de_bl) (da_cons (do_of de_bl) (da_cons (do_of de_int) (da_cons (do_of (de_un od_neg (do_of de_int))) (da_cons (do_of (de_call tk G_Ldraw hr (by rfl) g_Ldraw k_Ldraw B_Ldraw rfl (da_cons (do_var (pv 1)) (da_cons (do_of (de_bin od_pow (do_of de_int) (do_of de_int))) da_nil)))) (da_cons (do_of (de_lst (da_cons (do_of (de_var (pv 4))) da_nil))) (da_cons (do_of (de_tup (da_cons (do_of (de_var (pv 4))) da_nil))) (da_cons (do_of (de_split (do_var (pv 4)) (do_of de_str))) (da_cons (do_of de_e0) (da_cons (do_of (de_fzK (de_disp1 (do_var (pv 4)) (de_var (pv 4))))) da_nil)))))))))))))
    (dss_cons (ds_for (passes_of rfl) rfl (di_rng1 (by rfl) z_range (do_of (de_bin od_add (do_of de_int) (do_of (de_call tk G_Ldraw hr (by rfl) g_Ldraw k_Ldraw B_Ldraw rfl (da_cons (do_var (pv 1)) (da_cons (do_of de_int) da_nil))))))) (dg_name sc_law.nd rfl (by first | exact Or.inl rfl | exact Or.inr rfl)) (dss_cons (ds_set (i := 9) sc_law.nd rfl (by first | exact Or.inl rfl | exact Or.inr rfl) (de_ix ixd_get (do_of (de_bin od_add (do_var (pv 5)) (do_of (de_lst (da_cons (do_of (de_var (pv 3))) (da_cons (do_of (de_lst da_nil)) (da_cons (do_of (de_tup da_nil)) da_nil))))))) (do_of (de_call tk G_Ldraw hr (by rfl) g_Ldraw k_Ldraw B_Ldraw rfl (da_cons (do_var (pv 1)) (da_cons (do_of de_int) da_nil)))) (fun _ _ => rfl)))
    (dss_cons (ds_set (i := 10) sc_law.nd rfl (by first | exact Or.inl rfl | exact Or.inr rfl) (de_cb (cd_reprT hG hr.units) (by rfl) z_repr (by decide +kernel) (da_cons (do_var (pv 9)) da_nil)))
    (dss_cons (ds_set (i := 11) sc_law.nd rfl (by first | exact Or.inl rfl | exact Or.inr rfl) (de_call tk G_Lread hr (by rfl) g_Lread k_Lread B_Lread rfl (da_cons (do_var (pv 9)) da_nil)))
    (dss_one (ds_if (db_w (dw_or (db_cmp (od_ne hr.units) (do_var (pv 11)) (do_of (de_lst (da_cons (do_of de_int) da_nil))) (nomark _)) (dw_or (db_not (db_val (de_call tk G_Lwhole hr (by rfl) g_Lwhole k_Lwhole B_Lwhole rfl (da_cons (do_of (de_ix ixd_get (do_var (pv 11)) (do_of de_int) (fun _ _ => rfl))) da_nil)))) (dw_or (db_not (db_val (de_peek tk G_Lsame hr (by rfl) g_Lsame k_Lsame B_Lsame rfl (da_cons (do_of (de_call tk G_read hr (by rfl) g_read k_read B_read rfl (da_cons (do_var (pv 4)) da_nil))) (da_cons (do_var (pv 3)) da_nil))))) (dw_or1 (db_cmp od_neS (do_of (de_cb (cd_reprT hG hr.units) (by rfl) z_repr (by decide +kernel) (da_cons (do_var (pv 9)) da_nil))) (do_var (pv 10)) (nomark _))))))) (dss_one (ds_ret de_bl)) dss_nil))))))
    (dss_cons (ds_set (i := 7) sc_law.nd rfl (by first | exact Or.inl rfl | exact Or.inr rfl) (de_bin od_add (do_of de_int) (do_of (de_call tk G_Ldraw hr (by rfl) g_Ldraw k_Ldraw B_Ldraw rfl (da_cons (do_var (pv 1)) (da_cons (do_of de_int) da_nil))))))
    (dss_cons (ds_set (i := 8) sc_law.nd rfl (by first | exact Or.inl rfl | exact Or.inr rfl) (de_mkX (cls := "NoText") xr_NoText xn_NoText (hr.mono hk2) (by rfl) (de_var (pv 7))))
    (dss_one (ds_ret (de_and (de_cmp (od_eq hr.units) (do_of (de_call tk G_Lkinds hr (by rfl) g_Lkinds k_Lkinds B_Lkinds rfl (da_cons (do_var (pv 8)) da_nil))) (do_of (de_lst (da_cons (do_of de_int) da_nil))) (nomark _)) (de_and (de_isX (by rfl) z_isinstance (pv 8) (pe_glob (v := .ref C_FloorError) (by rfl) gx_FloorError rfl) (.own _) (isTab_one xn_NoText xc_NoText kk_NoText_FloorError)) (de_one (de_cmp (od_eq hr.units) (do_of (de_rowX (cls := "NoText") xn_NoText xc_NoText xv_NoText (pv 8))) (do_var (pv 7)) (nomark _)))))))))))))))
set_option maxHeartbeats 4000000 in
theorem all_mk {h : Heap} {fa : Addr} (X : K.In h) (G : h.Ns mainGlobals mg) (hfa : mg "law" = some (.ref fa))
    {C_Reader : Addr} {f_place_of : Addr} {od_place_of an_place_of : Option Addr} {sl_place_of : Array (Option Value)} {oc_place_of kV_place_of dc_place_of pm_place_of cd_place_of ct_place_of : Value} {f_ends_of : Addr} {od_ends_of an_ends_of : Option Addr} {sl_ends_of : Array (Option Value)} {oc_ends_of kV_ends_of dc_ends_of pm_ends_of cd_ends_of ct_ends_of : Value} {f_ends_at : Addr} {od_ends_at an_ends_at : Option Addr} {sl_ends_at : Array (Option Value)} {oc_ends_at kV_ends_at dc_ends_at pm_ends_at cd_ends_at ct_ends_at : Value} {f_number_in : Addr} {od_number_in an_number_in : Option Addr} {sl_number_in : Array (Option Value)} {oc_number_in kV_number_in dc_number_in pm_number_in cd_number_in ct_number_in : Value} {f_Reader___init__ : Addr} {od_Reader___init__ an_Reader___init__ : Option Addr} {sl_Reader___init__ : Array (Option Value)} {oc_Reader___init__ kV_Reader___init__ dc_Reader___init__ pm_Reader___init__ cd_Reader___init__ ct_Reader___init__ : Value} {f_Reader_takes_places : Addr} {od_Reader_takes_places an_Reader_takes_places : Option Addr} {sl_Reader_takes_places : Array (Option Value)} {oc_Reader_takes_places kV_Reader_takes_places dc_Reader_takes_places pm_Reader_takes_places cd_Reader_takes_places ct_Reader_takes_places : Value} {f_Reader_takes_tie : Addr} {od_Reader_takes_tie an_Reader_takes_tie : Option Addr} {sl_Reader_takes_tie : Array (Option Value)} {oc_Reader_takes_tie kV_Reader_takes_tie dc_Reader_takes_tie pm_Reader_takes_tie cd_Reader_takes_tie ct_Reader_takes_tie : Value} {f_Reader_web : Addr} {od_Reader_web an_Reader_web : Option Addr} {sl_Reader_web : Array (Option Value)} {oc_Reader_web kV_Reader_web dc_Reader_web pm_Reader_web cd_Reader_web ct_Reader_web : Value} {f_Reader_takes_at : Addr} {od_Reader_takes_at an_Reader_takes_at : Option Addr} {sl_Reader_takes_at : Array (Option Value)} {oc_Reader_takes_at kV_Reader_takes_at dc_Reader_takes_at pm_Reader_takes_at cd_Reader_takes_at ct_Reader_takes_at : Value} {f_Reader_takes : Addr} {od_Reader_takes an_Reader_takes : Option Addr} {sl_Reader_takes : Array (Option Value)} {oc_Reader_takes kV_Reader_takes dc_Reader_takes pm_Reader_takes cd_Reader_takes ct_Reader_takes : Value} {f_Reader_is_done : Addr} {od_Reader_is_done an_Reader_is_done : Option Addr} {sl_Reader_is_done : Array (Option Value)} {oc_Reader_is_done kV_Reader_is_done dc_Reader_is_done pm_Reader_is_done cd_Reader_is_done ct_Reader_is_done : Value} {f_Reader_floor : Addr} {od_Reader_floor an_Reader_floor : Option Addr} {sl_Reader_floor : Array (Option Value)} {oc_Reader_floor kV_Reader_floor dc_Reader_floor pm_Reader_floor cd_Reader_floor ct_Reader_floor : Value} {f_read : Addr} {od_read an_read : Option Addr} {sl_read : Array (Option Value)} {oc_read kV_read dc_read pm_read cd_read ct_read : Value} {f_Lpen : Addr} {od_Lpen an_Lpen : Option Addr} {sl_Lpen : Array (Option Value)} {oc_Lpen kV_Lpen dc_Lpen pm_Lpen cd_Lpen ct_Lpen : Value} {f_Ldraw : Addr} {od_Ldraw an_Ldraw : Option Addr} {sl_Ldraw : Array (Option Value)} {oc_Ldraw kV_Ldraw dc_Ldraw pm_Ldraw cd_Ldraw ct_Ldraw : Value} {f_Lweb : Addr} {od_Lweb an_Lweb : Option Addr} {sl_Lweb : Array (Option Value)} {oc_Lweb kV_Lweb dc_Lweb pm_Lweb cd_Lweb ct_Lweb : Value} {f_Lorder : Addr} {od_Lorder an_Lorder : Option Addr} {sl_Lorder : Array (Option Value)} {oc_Lorder kV_Lorder dc_Lorder pm_Lorder cd_Lorder ct_Lorder : Value} {f_Lwhole : Addr} {od_Lwhole an_Lwhole : Option Addr} {sl_Lwhole : Array (Option Value)} {oc_Lwhole kV_Lwhole dc_Lwhole pm_Lwhole cd_Lwhole ct_Lwhole : Value} {f_Lsame : Addr} {od_Lsame an_Lsame : Option Addr} {sl_Lsame : Array (Option Value)} {oc_Lsame kV_Lsame dc_Lsame pm_Lsame cd_Lsame ct_Lsame : Value} {f_Ltext : Addr} {od_Ltext an_Ltext : Option Addr} {sl_Ltext : Array (Option Value)} {oc_Ltext kV_Ltext dc_Ltext pm_Ltext cd_Ltext ct_Ltext : Value} {f_Lkinds : Addr} {od_Lkinds an_Lkinds : Option Addr} {sl_Lkinds : Array (Option Value)} {oc_Lkinds kV_Lkinds dc_Lkinds pm_Lkinds cd_Lkinds ct_Lkinds : Value} {f_Lread : Addr} {od_Lread an_Lread : Option Addr} {sl_Lread : Array (Option Value)} {oc_Lread kV_Lread dc_Lread pm_Lread cd_Lread ct_Lread : Value} {f_law : Addr} {od_law an_law : Option Addr} {sl_law : Array (Option Value)} {oc_law kV_law dc_law pm_law cd_law ct_law : Value} {t_MOST_FIGURES : Tok} {t_FIGURES : Tok} {t_MOST_PLACES : Tok} {t_MOST_TIES : Tok} {C_NoText : Addr} {C_NoWeb : Addr} {C_NoOrder : Addr} {C_NoNumber : Addr} {C_NoEnd : Addr} {C_NoTie : Addr} {C_NoPlace : Addr} {C_NoTable : Addr} {C_NoRing : Addr} {C_NoPaper : Addr} {C_Apart : Addr} {C_TooMany : Addr} {C_TooGreat : Addr} {C_NoName : Addr} {C_NoRow : Addr} {C_FloorError : Addr} {fI_NoText : Addr} {odI_NoText anI_NoText : Option Addr} {slI_NoText : Array (Option Value)} {ocI_NoText kVI_NoText dcI_NoText pmI_NoText cdI_NoText ctI_NoText : Value} {ob_NoText : Obj} (oa_Reader : PySem.W.nsIn K mainGlobals "Reader" = some (some (.ref C_Reader))) (og_Reader : PySem.W.plainGet K C_Reader Str.empty = true) (od_Reader : PySem.W.hasDictIn K C_Reader = true) (oo_Reader : PySem.W.plainOver K C_Reader = true) (os_Reader : PySem.W.findIn K (.ref C_Reader) "__setattr__" = some (some (.builtin "object.__setattr__"))) (om_Reader : PySem.W.makesIn K C_Reader = true) (ok_Reader : PySem.W.keepIn K (.ref C_Reader) = true) (na_Reader_last : PySem.W.findIn K (.ref C_Reader) "last" = some none) (na_Reader_many : PySem.W.findIn K (.ref C_Reader) "many" = some none) (na_Reader_rows : PySem.W.findIn K (.ref C_Reader) "rows" = some none) (na_Reader_ties : PySem.W.findIn K (.ref C_Reader) "ties" = some none)
    (a_place_of : PySem.W.nsIn K mainGlobals "place_of" = some (some (.ref f_place_of))) (l_place_of : K.lookup f_place_of = some ⟨oc_place_of, od_place_of, .func (PySem.W.fnOf "place_of" "place_of" (defArgs s_place_of) (defBody s_place_of) (defScope s_place_of) .none kV_place_of dc_place_of pm_place_of an_place_of cd_place_of ct_place_of), sl_place_of⟩) (c_place_of : PySem.W.codeIn K cd_place_of "place_of" = true) (k_place_of : PySem.W.keepIn K (.ref f_place_of) = true)
    (a_ends_of : PySem.W.nsIn K mainGlobals "ends_of" = some (some (.ref f_ends_of))) (l_ends_of : K.lookup f_ends_of = some ⟨oc_ends_of, od_ends_of, .func (PySem.W.fnOf "ends_of" "ends_of" (defArgs s_ends_of) (defBody s_ends_of) (defScope s_ends_of) .none kV_ends_of dc_ends_of pm_ends_of an_ends_of cd_ends_of ct_ends_of), sl_ends_of⟩) (c_ends_of : PySem.W.codeIn K cd_ends_of "ends_of" = true) (k_ends_of : PySem.W.keepIn K (.ref f_ends_of) = true)
    (a_ends_at : PySem.W.nsIn K mainGlobals "ends_at" = some (some (.ref f_ends_at))) (l_ends_at : K.lookup f_ends_at = some ⟨oc_ends_at, od_ends_at, .func (PySem.W.fnOf "ends_at" "ends_at" (defArgs s_ends_at) (defBody s_ends_at) (defScope s_ends_at) .none kV_ends_at dc_ends_at pm_ends_at an_ends_at cd_ends_at ct_ends_at), sl_ends_at⟩) (c_ends_at : PySem.W.codeIn K cd_ends_at "ends_at" = true) (k_ends_at : PySem.W.keepIn K (.ref f_ends_at) = true)
    (a_number_in : PySem.W.nsIn K mainGlobals "number_in" = some (some (.ref f_number_in))) (l_number_in : K.lookup f_number_in = some ⟨oc_number_in, od_number_in, .func (PySem.W.fnOf "number_in" "number_in" (defArgs s_number_in) (defBody s_number_in) (defScope s_number_in) .none kV_number_in dc_number_in pm_number_in an_number_in cd_number_in ct_number_in), sl_number_in⟩) (c_number_in : PySem.W.codeIn K cd_number_in "number_in" = true) (k_number_in : PySem.W.keepIn K (.ref f_number_in) = true)
    (a_Reader___init__ : PySem.W.findIn K (.ref C_Reader) "__init__" = some (some (.ref f_Reader___init__))) (i_Reader___init__ : PySem.W.isFn K (.ref f_Reader___init__) = true) (l_Reader___init__ : K.lookup f_Reader___init__ = some ⟨oc_Reader___init__, od_Reader___init__, .func (PySem.W.fnOf "__init__" "Reader.__init__" (defArgs s_Reader___init__) (defBody s_Reader___init__) (defScope s_Reader___init__) .none kV_Reader___init__ dc_Reader___init__ pm_Reader___init__ an_Reader___init__ cd_Reader___init__ ct_Reader___init__), sl_Reader___init__⟩) (c_Reader___init__ : PySem.W.codeIn K cd_Reader___init__ "Reader.__init__" = true) (k_Reader___init__ : PySem.W.keepIn K (.ref f_Reader___init__) = true)
    (a_Reader_takes_places : PySem.W.findIn K (.ref C_Reader) "takes_places" = some (some (.ref f_Reader_takes_places))) (i_Reader_takes_places : PySem.W.isFn K (.ref f_Reader_takes_places) = true) (l_Reader_takes_places : K.lookup f_Reader_takes_places = some ⟨oc_Reader_takes_places, od_Reader_takes_places, .func (PySem.W.fnOf "takes_places" "Reader.takes_places" (defArgs s_Reader_takes_places) (defBody s_Reader_takes_places) (defScope s_Reader_takes_places) .none kV_Reader_takes_places dc_Reader_takes_places pm_Reader_takes_places an_Reader_takes_places cd_Reader_takes_places ct_Reader_takes_places), sl_Reader_takes_places⟩) (c_Reader_takes_places : PySem.W.codeIn K cd_Reader_takes_places "Reader.takes_places" = true) (k_Reader_takes_places : PySem.W.keepIn K (.ref f_Reader_takes_places) = true)
    (a_Reader_takes_tie : PySem.W.findIn K (.ref C_Reader) "takes_tie" = some (some (.ref f_Reader_takes_tie))) (i_Reader_takes_tie : PySem.W.isFn K (.ref f_Reader_takes_tie) = true) (l_Reader_takes_tie : K.lookup f_Reader_takes_tie = some ⟨oc_Reader_takes_tie, od_Reader_takes_tie, .func (PySem.W.fnOf "takes_tie" "Reader.takes_tie" (defArgs s_Reader_takes_tie) (defBody s_Reader_takes_tie) (defScope s_Reader_takes_tie) .none kV_Reader_takes_tie dc_Reader_takes_tie pm_Reader_takes_tie an_Reader_takes_tie cd_Reader_takes_tie ct_Reader_takes_tie), sl_Reader_takes_tie⟩) (c_Reader_takes_tie : PySem.W.codeIn K cd_Reader_takes_tie "Reader.takes_tie" = true) (k_Reader_takes_tie : PySem.W.keepIn K (.ref f_Reader_takes_tie) = true)
    (a_Reader_web : PySem.W.findIn K (.ref C_Reader) "web" = some (some (.ref f_Reader_web))) (i_Reader_web : PySem.W.isFn K (.ref f_Reader_web) = true) (l_Reader_web : K.lookup f_Reader_web = some ⟨oc_Reader_web, od_Reader_web, .func (PySem.W.fnOf "web" "Reader.web" (defArgs s_Reader_web) (defBody s_Reader_web) (defScope s_Reader_web) .none kV_Reader_web dc_Reader_web pm_Reader_web an_Reader_web cd_Reader_web ct_Reader_web), sl_Reader_web⟩) (c_Reader_web : PySem.W.codeIn K cd_Reader_web "Reader.web" = true) (k_Reader_web : PySem.W.keepIn K (.ref f_Reader_web) = true)
    (a_Reader_takes_at : PySem.W.findIn K (.ref C_Reader) "takes_at" = some (some (.ref f_Reader_takes_at))) (i_Reader_takes_at : PySem.W.isFn K (.ref f_Reader_takes_at) = true) (l_Reader_takes_at : K.lookup f_Reader_takes_at = some ⟨oc_Reader_takes_at, od_Reader_takes_at, .func (PySem.W.fnOf "takes_at" "Reader.takes_at" (defArgs s_Reader_takes_at) (defBody s_Reader_takes_at) (defScope s_Reader_takes_at) .none kV_Reader_takes_at dc_Reader_takes_at pm_Reader_takes_at an_Reader_takes_at cd_Reader_takes_at ct_Reader_takes_at), sl_Reader_takes_at⟩) (c_Reader_takes_at : PySem.W.codeIn K cd_Reader_takes_at "Reader.takes_at" = true) (k_Reader_takes_at : PySem.W.keepIn K (.ref f_Reader_takes_at) = true)
    (a_Reader_takes : PySem.W.findIn K (.ref C_Reader) "takes" = some (some (.ref f_Reader_takes))) (i_Reader_takes : PySem.W.isFn K (.ref f_Reader_takes) = true) (l_Reader_takes : K.lookup f_Reader_takes = some ⟨oc_Reader_takes, od_Reader_takes, .func (PySem.W.fnOf "takes" "Reader.takes" (defArgs s_Reader_takes) (defBody s_Reader_takes) (defScope s_Reader_takes) .none kV_Reader_takes dc_Reader_takes pm_Reader_takes an_Reader_takes cd_Reader_takes ct_Reader_takes), sl_Reader_takes⟩) (c_Reader_takes : PySem.W.codeIn K cd_Reader_takes "Reader.takes" = true) (k_Reader_takes : PySem.W.keepIn K (.ref f_Reader_takes) = true)
    (a_Reader_is_done : PySem.W.findIn K (.ref C_Reader) "is_done" = some (some (.ref f_Reader_is_done))) (i_Reader_is_done : PySem.W.isFn K (.ref f_Reader_is_done) = true) (l_Reader_is_done : K.lookup f_Reader_is_done = some ⟨oc_Reader_is_done, od_Reader_is_done, .func (PySem.W.fnOf "is_done" "Reader.is_done" (defArgs s_Reader_is_done) (defBody s_Reader_is_done) (defScope s_Reader_is_done) .none kV_Reader_is_done dc_Reader_is_done pm_Reader_is_done an_Reader_is_done cd_Reader_is_done ct_Reader_is_done), sl_Reader_is_done⟩) (c_Reader_is_done : PySem.W.codeIn K cd_Reader_is_done "Reader.is_done" = true) (k_Reader_is_done : PySem.W.keepIn K (.ref f_Reader_is_done) = true)
    (a_Reader_floor : PySem.W.findIn K (.ref C_Reader) "floor" = some (some (.ref f_Reader_floor))) (i_Reader_floor : PySem.W.isFn K (.ref f_Reader_floor) = true) (l_Reader_floor : K.lookup f_Reader_floor = some ⟨oc_Reader_floor, od_Reader_floor, .func (PySem.W.fnOf "floor" "Reader.floor" (defArgs s_Reader_floor) (defBody s_Reader_floor) (defScope s_Reader_floor) .none kV_Reader_floor dc_Reader_floor pm_Reader_floor an_Reader_floor cd_Reader_floor ct_Reader_floor), sl_Reader_floor⟩) (c_Reader_floor : PySem.W.codeIn K cd_Reader_floor "Reader.floor" = true) (k_Reader_floor : PySem.W.keepIn K (.ref f_Reader_floor) = true)
    (a_read : PySem.W.nsIn K mainGlobals "read" = some (some (.ref f_read))) (l_read : K.lookup f_read = some ⟨oc_read, od_read, .func (PySem.W.fnOf "read" "read" (defArgs s_read) (defBody s_read) (defScope s_read) .none kV_read dc_read pm_read an_read cd_read ct_read), sl_read⟩) (c_read : PySem.W.codeIn K cd_read "read" = true) (k_read : PySem.W.keepIn K (.ref f_read) = true)
    (a_Lpen : PySem.W.nsIn K mainGlobals "_law_pen" = some (some (.ref f_Lpen))) (l_Lpen : K.lookup f_Lpen = some ⟨oc_Lpen, od_Lpen, .func (PySem.W.fnOf "_law_pen" "_law_pen" (defArgs s_Lpen) (defBody s_Lpen) (defScope s_Lpen) .none kV_Lpen dc_Lpen pm_Lpen an_Lpen cd_Lpen ct_Lpen), sl_Lpen⟩) (c_Lpen : PySem.W.codeIn K cd_Lpen "_law_pen" = true) (k_Lpen : PySem.W.keepIn K (.ref f_Lpen) = true)
    (a_Ldraw : PySem.W.nsIn K mainGlobals "_law_draw" = some (some (.ref f_Ldraw))) (l_Ldraw : K.lookup f_Ldraw = some ⟨oc_Ldraw, od_Ldraw, .func (PySem.W.fnOf "_law_draw" "_law_draw" (defArgs s_Ldraw) (defBody s_Ldraw) (defScope s_Ldraw) .none kV_Ldraw dc_Ldraw pm_Ldraw an_Ldraw cd_Ldraw ct_Ldraw), sl_Ldraw⟩) (c_Ldraw : PySem.W.codeIn K cd_Ldraw "_law_draw" = true) (k_Ldraw : PySem.W.keepIn K (.ref f_Ldraw) = true)
    (a_Lweb : PySem.W.nsIn K mainGlobals "_law_web" = some (some (.ref f_Lweb))) (l_Lweb : K.lookup f_Lweb = some ⟨oc_Lweb, od_Lweb, .func (PySem.W.fnOf "_law_web" "_law_web" (defArgs s_Lweb) (defBody s_Lweb) (defScope s_Lweb) .none kV_Lweb dc_Lweb pm_Lweb an_Lweb cd_Lweb ct_Lweb), sl_Lweb⟩) (c_Lweb : PySem.W.codeIn K cd_Lweb "_law_web" = true) (k_Lweb : PySem.W.keepIn K (.ref f_Lweb) = true)
    (a_Lorder : PySem.W.nsIn K mainGlobals "_law_order" = some (some (.ref f_Lorder))) (l_Lorder : K.lookup f_Lorder = some ⟨oc_Lorder, od_Lorder, .func (PySem.W.fnOf "_law_order" "_law_order" (defArgs s_Lorder) (defBody s_Lorder) (defScope s_Lorder) .none kV_Lorder dc_Lorder pm_Lorder an_Lorder cd_Lorder ct_Lorder), sl_Lorder⟩) (c_Lorder : PySem.W.codeIn K cd_Lorder "_law_order" = true) (k_Lorder : PySem.W.keepIn K (.ref f_Lorder) = true)
    (a_Lwhole : PySem.W.nsIn K mainGlobals "_law_whole" = some (some (.ref f_Lwhole))) (l_Lwhole : K.lookup f_Lwhole = some ⟨oc_Lwhole, od_Lwhole, .func (PySem.W.fnOf "_law_whole" "_law_whole" (defArgs s_Lwhole) (defBody s_Lwhole) (defScope s_Lwhole) .none kV_Lwhole dc_Lwhole pm_Lwhole an_Lwhole cd_Lwhole ct_Lwhole), sl_Lwhole⟩) (c_Lwhole : PySem.W.codeIn K cd_Lwhole "_law_whole" = true) (k_Lwhole : PySem.W.keepIn K (.ref f_Lwhole) = true)
    (a_Lsame : PySem.W.nsIn K mainGlobals "_law_same" = some (some (.ref f_Lsame))) (l_Lsame : K.lookup f_Lsame = some ⟨oc_Lsame, od_Lsame, .func (PySem.W.fnOf "_law_same" "_law_same" (defArgs s_Lsame) (defBody s_Lsame) (defScope s_Lsame) .none kV_Lsame dc_Lsame pm_Lsame an_Lsame cd_Lsame ct_Lsame), sl_Lsame⟩) (c_Lsame : PySem.W.codeIn K cd_Lsame "_law_same" = true) (k_Lsame : PySem.W.keepIn K (.ref f_Lsame) = true)
    (a_Ltext : PySem.W.nsIn K mainGlobals "_law_text" = some (some (.ref f_Ltext))) (l_Ltext : K.lookup f_Ltext = some ⟨oc_Ltext, od_Ltext, .func (PySem.W.fnOf "_law_text" "_law_text" (defArgs s_Ltext) (defBody s_Ltext) (defScope s_Ltext) .none kV_Ltext dc_Ltext pm_Ltext an_Ltext cd_Ltext ct_Ltext), sl_Ltext⟩) (c_Ltext : PySem.W.codeIn K cd_Ltext "_law_text" = true) (k_Ltext : PySem.W.keepIn K (.ref f_Ltext) = true)
    (a_Lkinds : PySem.W.nsIn K mainGlobals "_law_kinds" = some (some (.ref f_Lkinds))) (l_Lkinds : K.lookup f_Lkinds = some ⟨oc_Lkinds, od_Lkinds, .func (PySem.W.fnOf "_law_kinds" "_law_kinds" (defArgs s_Lkinds) (defBody s_Lkinds) (defScope s_Lkinds) .none kV_Lkinds dc_Lkinds pm_Lkinds an_Lkinds cd_Lkinds ct_Lkinds), sl_Lkinds⟩) (c_Lkinds : PySem.W.codeIn K cd_Lkinds "_law_kinds" = true) (k_Lkinds : PySem.W.keepIn K (.ref f_Lkinds) = true)
    (a_Lread : PySem.W.nsIn K mainGlobals "_law_read" = some (some (.ref f_Lread))) (l_Lread : K.lookup f_Lread = some ⟨oc_Lread, od_Lread, .func (PySem.W.fnOf "_law_read" "_law_read" (defArgs s_Lread) (defBody s_Lread) (defScope s_Lread) .none kV_Lread dc_Lread pm_Lread an_Lread cd_Lread ct_Lread), sl_Lread⟩) (c_Lread : PySem.W.codeIn K cd_Lread "_law_read" = true) (k_Lread : PySem.W.keepIn K (.ref f_Lread) = true)
    (a_law : PySem.W.nsIn K mainGlobals "law" = some (some (.ref f_law))) (l_law : K.lookup f_law = some ⟨oc_law, od_law, .func (PySem.W.fnOf "law" "law" (defArgs s_law) (defBody s_law) (defScope s_law) .none kV_law dc_law pm_law an_law cd_law ct_law), sl_law⟩) (c_law : PySem.W.codeIn K cd_law "law" = true) (k_law : PySem.W.keepIn K (.ref f_law) = true) (z_len : PySem.W.nsIn K mainGlobals "len" = some none) (z_range : PySem.W.nsIn K mainGlobals "range" = some none) (z_MOST_FIGURES : PySem.W.nsIn K mainGlobals "MOST_FIGURES" = some (some (.int 60 t_MOST_FIGURES))) (z_FIGURES : PySem.W.nsIn K mainGlobals "FIGURES" = some (some (.str (Str.ofString "0123456789") t_FIGURES))) (z_int : PySem.W.nsIn K mainGlobals "int" = some none) (z_MOST_PLACES : PySem.W.nsIn K mainGlobals "MOST_PLACES" = some (some (.int 25 t_MOST_PLACES))) (z_MOST_TIES : PySem.W.nsIn K mainGlobals "MOST_TIES" = some (some (.int 24 t_MOST_TIES))) (z_max : PySem.W.nsIn K mainGlobals "max" = some none) (z_tuple : PySem.W.nsIn K mainGlobals "tuple" = some none) (z_sorted : PySem.W.nsIn K mainGlobals "sorted" = some none) (z_min : PySem.W.nsIn K mainGlobals "min" = some none) (z_all : PySem.W.nsIn K mainGlobals "all" = some none) (z_isinstance : PySem.W.nsIn K mainGlobals "isinstance" = some none) (z_str : PySem.W.nsIn K mainGlobals "str" = some none) (z_abs : PySem.W.nsIn K mainGlobals "abs" = some none) (z_bool : PySem.W.nsIn K mainGlobals "bool" = some none) (z_zip : PySem.W.nsIn K mainGlobals "zip" = some none) (z_ValueError : PySem.W.nsIn K mainGlobals "ValueError" = some none) (z_repr : PySem.W.nsIn K mainGlobals "repr" = some none) (xa_NoText : PySem.W.nsIn K mainGlobals "NoText" = some (some (.ref C_NoText))) (xa_NoWeb : PySem.W.nsIn K mainGlobals "NoWeb" = some (some (.ref C_NoWeb))) (xa_NoOrder : PySem.W.nsIn K mainGlobals "NoOrder" = some (some (.ref C_NoOrder))) (xa_NoNumber : PySem.W.nsIn K mainGlobals "NoNumber" = some (some (.ref C_NoNumber))) (xa_NoEnd : PySem.W.nsIn K mainGlobals "NoEnd" = some (some (.ref C_NoEnd))) (xa_NoTie : PySem.W.nsIn K mainGlobals "NoTie" = some (some (.ref C_NoTie))) (xa_NoPlace : PySem.W.nsIn K mainGlobals "NoPlace" = some (some (.ref C_NoPlace))) (xa_NoTable : PySem.W.nsIn K mainGlobals "NoTable" = some (some (.ref C_NoTable))) (xa_NoRing : PySem.W.nsIn K mainGlobals "NoRing" = some (some (.ref C_NoRing))) (xa_NoPaper : PySem.W.nsIn K mainGlobals "NoPaper" = some (some (.ref C_NoPaper))) (xa_Apart : PySem.W.nsIn K mainGlobals "Apart" = some (some (.ref C_Apart))) (xa_TooMany : PySem.W.nsIn K mainGlobals "TooMany" = some (some (.ref C_TooMany))) (xa_TooGreat : PySem.W.nsIn K mainGlobals "TooGreat" = some (some (.ref C_TooGreat))) (xa_NoName : PySem.W.nsIn K mainGlobals "NoName" = some (some (.ref C_NoName))) (xa_NoRow : PySem.W.nsIn K mainGlobals "NoRow" = some (some (.ref C_NoRow))) (xa_FloorError : PySem.W.nsIn K mainGlobals "FloorError" = some (some (.ref C_FloorError))) (xl_NoText : K.lookup C_NoText = some ob_NoText) (xo_NoText : OexO ob_NoText C_NoText) (xsa_NoText : PySem.W.findIn K (.ref C_NoText) "__setattr__" = some (some (.builtin "object.__setattr__"))) (xb_NoText : PySem.W.subIn K (.ref C_NoText) (.type "BaseException") = some true) (xt_NoText : PySem.W.typeIn K (.ref C_NoText) = some (.type "type")) (xk_NoText : PySem.W.keepIn K (.ref C_NoText) = true) (xi_NoText : PySem.W.findIn K (.ref C_NoText) "__init__" = some (some (.ref fI_NoText))) (xti_NoText : PySem.W.typeIn K (.ref fI_NoText) = some (.type "function")) (xv_NoText : PySem.W.findIn K (.ref C_NoText) "row" = some none) (xli_NoText : K.lookup fI_NoText = some ⟨ocI_NoText, odI_NoText, .func (PySem.W.fnOf "__init__" "NoText.__init__" (defArgs s_NoText_init) (defBody s_NoText_init) (defScope s_NoText_init) .none kVI_NoText dcI_NoText pmI_NoText anI_NoText cdI_NoText ctI_NoText), slI_NoText⟩) (xci_NoText : PySem.W.codeIn K cdI_NoText "NoText.__init__" = true) (xki_NoText : PySem.W.keepIn K (.ref fI_NoText) = true) (xr1_FloorError : PySem.W.specialIn K (.ref C_FloorError) "__getattribute__" = some (some (.builtin "type.__getattribute__"))) (xr2_NoText : PySem.W.readsIn K C_FloorError (.type "type") = true) (xr3_NoText : PySem.W.findCls K (.ref C_FloorError) (.type "type") "__init__" = some (.val (.builtin "ValueError.__init__"))) (xchg_NoText : PySem.W.findIn K (.ref C_NoText) "__getattribute__" = some (some (.builtin "BaseException.__getattribute__"))) (xchk_NoText : PySem.W.findIn K (.ref C_NoText) "__getattr__" = some none) (xchs_NoText : PySem.W.subIn K (.ref C_NoText) (.type "BaseException") = some true) (xchd_NoText : PySem.W.hasDictIn K C_NoText = true) (xcha_NoText : PySem.W.findIn K (.ref C_NoText) "__class__" = some (some (.builtin "object.__class__"))) (xchm_NoText : PySem.W.mroIn K C_NoText (.type "object") = some true) (xcn_NoText : PySem.W.specialIn K (.builtin "object.__class__") "__get__" = some (some (.builtin "getset_descriptor.__get__"))) (xct_NoText : PySem.W.takesIn K (.builtin "object.__class__") = some true) (xs_NoText_NoText : PySem.W.subIn K (.ref C_NoText) (.ref C_NoText) = some true) (xd_NoWeb : PySem.W.hasDictIn K C_NoWeb = true) (xt_NoWeb : PySem.W.typeIn K (.ref C_NoWeb) = some (.type "type")) (xs_NoText_NoWeb : PySem.W.subIn K (.ref C_NoText) (.ref C_NoWeb) = some false) (xd_NoOrder : PySem.W.hasDictIn K C_NoOrder = true) (xt_NoOrder : PySem.W.typeIn K (.ref C_NoOrder) = some (.type "type")) (xs_NoText_NoOrder : PySem.W.subIn K (.ref C_NoText) (.ref C_NoOrder) = some false) (xd_NoNumber : PySem.W.hasDictIn K C_NoNumber = true) (xt_NoNumber : PySem.W.typeIn K (.ref C_NoNumber) = some (.type "type")) (xs_NoText_NoNumber : PySem.W.subIn K (.ref C_NoText) (.ref C_NoNumber) = some false) (xd_NoEnd : PySem.W.hasDictIn K C_NoEnd = true) (xt_NoEnd : PySem.W.typeIn K (.ref C_NoEnd) = some (.type "type")) (xs_NoText_NoEnd : PySem.W.subIn K (.ref C_NoText) (.ref C_NoEnd) = some false) (xd_NoTie : PySem.W.hasDictIn K C_NoTie = true) (xt_NoTie : PySem.W.typeIn K (.ref C_NoTie) = some (.type "type")) (xs_NoText_NoTie : PySem.W.subIn K (.ref C_NoText) (.ref C_NoTie) = some false) (xd_NoPlace : PySem.W.hasDictIn K C_NoPlace = true) (xt_NoPlace : PySem.W.typeIn K (.ref C_NoPlace) = some (.type "type")) (xs_NoText_NoPlace : PySem.W.subIn K (.ref C_NoText) (.ref C_NoPlace) = some false) (xd_NoTable : PySem.W.hasDictIn K C_NoTable = true) (xt_NoTable : PySem.W.typeIn K (.ref C_NoTable) = some (.type "type")) (xs_NoText_NoTable : PySem.W.subIn K (.ref C_NoText) (.ref C_NoTable) = some false) (xd_NoRing : PySem.W.hasDictIn K C_NoRing = true) (xt_NoRing : PySem.W.typeIn K (.ref C_NoRing) = some (.type "type")) (xs_NoText_NoRing : PySem.W.subIn K (.ref C_NoText) (.ref C_NoRing) = some false) (xd_NoPaper : PySem.W.hasDictIn K C_NoPaper = true) (xt_NoPaper : PySem.W.typeIn K (.ref C_NoPaper) = some (.type "type")) (xs_NoText_NoPaper : PySem.W.subIn K (.ref C_NoText) (.ref C_NoPaper) = some false) (xd_Apart : PySem.W.hasDictIn K C_Apart = true) (xt_Apart : PySem.W.typeIn K (.ref C_Apart) = some (.type "type")) (xs_NoText_Apart : PySem.W.subIn K (.ref C_NoText) (.ref C_Apart) = some false) (xd_TooMany : PySem.W.hasDictIn K C_TooMany = true) (xt_TooMany : PySem.W.typeIn K (.ref C_TooMany) = some (.type "type")) (xs_NoText_TooMany : PySem.W.subIn K (.ref C_NoText) (.ref C_TooMany) = some false) (xd_TooGreat : PySem.W.hasDictIn K C_TooGreat = true) (xt_TooGreat : PySem.W.typeIn K (.ref C_TooGreat) = some (.type "type")) (xs_NoText_TooGreat : PySem.W.subIn K (.ref C_NoText) (.ref C_TooGreat) = some false) (xd_NoText : PySem.W.hasDictIn K C_NoText = true) (xd_NoName : PySem.W.hasDictIn K C_NoName = true) (xt_NoName : PySem.W.typeIn K (.ref C_NoName) = some (.type "type")) (xs_NoText_NoName : PySem.W.subIn K (.ref C_NoText) (.ref C_NoName) = some false) (xd_NoRow : PySem.W.hasDictIn K C_NoRow = true) (xt_NoRow : PySem.W.typeIn K (.ref C_NoRow) = some (.type "type")) (xs_NoText_NoRow : PySem.W.subIn K (.ref C_NoText) (.ref C_NoRow) = some false) (xs_NoText_ValueError : PySem.W.subIn K (.ref C_NoText) (.type "ValueError") = some true) (xb_FloorError : PySem.W.subIn K (.ref C_FloorError) (.type "BaseException") = some true) (xd_FloorError : PySem.W.hasDictIn K C_FloorError = true) (xt_FloorError : PySem.W.typeIn K (.ref C_FloorError) = some (.type "type")) (xs_NoText_FloorError : PySem.W.subIn K (.ref C_NoText) (.ref C_FloorError) = some true) :
    ∃ fd : FuncData, (∀ (s : Shared) (v : Value), BindsTo s fd ⟨[v], []⟩ [("_law_script", v)]) ∧ ∀ base : Heap, K.In base → base.Ns mainGlobals mg → FnAt P w K mg base callerA fa fd ["_law_script"] (spD K mg sem_law_9135R 1) := by
  have e : fa = f_law := by
    have e := hfa.symm.trans (PySem.W.mg_of X G a_law)
    cases e; rfl
  rw [e]
  have oc_Reader : ClsK K mg "Reader" C_Reader := ⟨oa_Reader, PySem.W.mg_of X G oa_Reader, ⟨og_Reader, od_Reader, oo_Reader, os_Reader⟩⟩
  have F_place_of := fun_mk (st := s_place_of) l_place_of c_place_of k_place_of
  have B_place_of := F_place_of.binds (ps := ["web", "end"]) fun _ _ _ _ _ _ us hl => match us, hl with | [_, _], _ => rfl
  have g_place_of := PySem.W.mg_of X G a_place_of
  have F_ends_of := fun_mk (st := s_ends_of) l_ends_of c_ends_of k_ends_of
  have B_ends_of := F_ends_of.binds (ps := ["web"]) fun _ _ _ _ _ _ us hl => match us, hl with | [_], _ => rfl
  have g_ends_of := PySem.W.mg_of X G a_ends_of
  have F_ends_at := fun_mk (st := s_ends_at) l_ends_at c_ends_at k_ends_at
  have B_ends_at := F_ends_at.binds (ps := ["web", "place"]) fun _ _ _ _ _ _ us hl => match us, hl with | [_, _], _ => rfl
  have g_ends_at := PySem.W.mg_of X G a_ends_at
  have F_number_in := fun_mk (st := s_number_in) l_number_in c_number_in k_number_in
  have B_number_in := F_number_in.binds (ps := ["word"]) fun _ _ _ _ _ _ us hl => match us, hl with | [_], _ => rfl
  have g_number_in := PySem.W.mg_of X G a_number_in
  have F_Reader___init__ := fun_mk (st := s_Reader___init__) l_Reader___init__ c_Reader___init__ k_Reader___init__
  have B_Reader___init__ := F_Reader___init__.binds (ps := ["self"]) fun _ _ _ _ _ _ us hl => match us, hl with | [_], _ => rfl
  have g_Reader___init__ : Mk K C_Reader f_Reader___init__ := ⟨om_Reader, a_Reader___init__, i_Reader___init__, ok_Reader⟩
  have F_Reader_takes_places := fun_mk (st := s_Reader_takes_places) l_Reader_takes_places c_Reader_takes_places k_Reader_takes_places
  have B_Reader_takes_places := F_Reader_takes_places.binds (ps := ["self", "numbers"]) fun _ _ _ _ _ _ us hl => match us, hl with | [_, _], _ => rfl
  have g_Reader_takes_places : Meth K C_Reader "takes_places" f_Reader_takes_places := ⟨a_Reader_takes_places, i_Reader_takes_places, k_Reader_takes_places⟩
  have F_Reader_takes_tie := fun_mk (st := s_Reader_takes_tie) l_Reader_takes_tie c_Reader_takes_tie k_Reader_takes_tie
  have B_Reader_takes_tie := F_Reader_takes_tie.binds (ps := ["self", "numbers"]) fun _ _ _ _ _ _ us hl => match us, hl with | [_, _], _ => rfl
  have g_Reader_takes_tie : Meth K C_Reader "takes_tie" f_Reader_takes_tie := ⟨a_Reader_takes_tie, i_Reader_takes_tie, k_Reader_takes_tie⟩
  have F_Reader_web := fun_mk (st := s_Reader_web) l_Reader_web c_Reader_web k_Reader_web
  have B_Reader_web := F_Reader_web.binds (ps := ["self"]) fun _ _ _ _ _ _ us hl => match us, hl with | [_], _ => rfl
  have g_Reader_web : Meth K C_Reader "web" f_Reader_web := ⟨a_Reader_web, i_Reader_web, k_Reader_web⟩
  have F_Reader_takes_at := fun_mk (st := s_Reader_takes_at) l_Reader_takes_at c_Reader_takes_at k_Reader_takes_at
  have B_Reader_takes_at := F_Reader_takes_at.binds (ps := ["self", "numbers"]) fun _ _ _ _ _ _ us hl => match us, hl with | [_, _], _ => rfl
  have g_Reader_takes_at : Meth K C_Reader "takes_at" f_Reader_takes_at := ⟨a_Reader_takes_at, i_Reader_takes_at, k_Reader_takes_at⟩
  have F_Reader_takes := fun_mk (st := s_Reader_takes) l_Reader_takes c_Reader_takes k_Reader_takes
  have B_Reader_takes := F_Reader_takes.binds (ps := ["self", "line"]) fun _ _ _ _ _ _ us hl => match us, hl with | [_, _], _ => rfl
  have g_Reader_takes : Meth K C_Reader "takes" f_Reader_takes := ⟨a_Reader_takes, i_Reader_takes, k_Reader_takes⟩
  have F_Reader_is_done := fun_mk (st := s_Reader_is_done) l_Reader_is_done c_Reader_is_done k_Reader_is_done
  have B_Reader_is_done := F_Reader_is_done.binds (ps := ["self"]) fun _ _ _ _ _ _ us hl => match us, hl with | [_], _ => rfl
  have g_Reader_is_done : Meth K C_Reader "is_done" f_Reader_is_done := ⟨a_Reader_is_done, i_Reader_is_done, k_Reader_is_done⟩
  have F_Reader_floor := fun_mk (st := s_Reader_floor) l_Reader_floor c_Reader_floor k_Reader_floor
  have B_Reader_floor := F_Reader_floor.binds (ps := ["self"]) fun _ _ _ _ _ _ us hl => match us, hl with | [_], _ => rfl
  have g_Reader_floor : Meth K C_Reader "floor" f_Reader_floor := ⟨a_Reader_floor, i_Reader_floor, k_Reader_floor⟩
  have F_read := fun_mk (st := s_read) l_read c_read k_read
  have B_read := F_read.binds (ps := ["text"]) fun _ _ _ _ _ _ us hl => match us, hl with | [_], _ => rfl
  have g_read := PySem.W.mg_of X G a_read
  have F_Lpen := fun_mk (st := s_Lpen) l_Lpen c_Lpen k_Lpen
  have B_Lpen := F_Lpen.binds (ps := ["_law_script"]) fun _ _ _ _ _ _ us hl => match us, hl with | [_], _ => rfl
  have g_Lpen := PySem.W.mg_of X G a_Lpen
  have F_Ldraw := fun_mk (st := s_Ldraw) l_Ldraw c_Ldraw k_Ldraw
  have B_Ldraw := F_Ldraw.binds (ps := ["_law_pen_here", "_law_many"]) fun _ _ _ _ _ _ us hl => match us, hl with | [_, _], _ => rfl
  have g_Ldraw := PySem.W.mg_of X G a_Ldraw
  have F_Lweb := fun_mk (st := s_Lweb) l_Lweb c_Lweb k_Lweb
  have B_Lweb := F_Lweb.binds (ps := ["_law_pen_here", "_law_places", "_law_ties"]) fun _ _ _ _ _ _ us hl => match us, hl with | [_, _, _], _ => rfl
  have g_Lweb := PySem.W.mg_of X G a_Lweb
  have F_Lorder := fun_mk (st := s_Lorder) l_Lorder c_Lorder k_Lorder
  have B_Lorder := F_Lorder.binds (ps := ["_law_pen_here", "_law_web_here"]) fun _ _ _ _ _ _ us hl => match us, hl with | [_, _], _ => rfl
  have g_Lorder := PySem.W.mg_of X G a_Lorder
  have F_Lwhole := fun_mk (st := s_Lwhole) l_Lwhole c_Lwhole k_Lwhole
  have B_Lwhole := F_Lwhole.binds (ps := ["_law_found"]) fun _ _ _ _ _ _ us hl => match us, hl with | [_], _ => rfl
  have g_Lwhole := PySem.W.mg_of X G a_Lwhole
  have F_Lsame := fun_mk (st := s_Lsame) l_Lsame c_Lsame k_Lsame
  have B_Lsame := F_Lsame.binds (ps := ["_law_found", "_law_due"]) fun _ _ _ _ _ _ us hl => match us, hl with | [_, _], _ => rfl
  have g_Lsame := PySem.W.mg_of X G a_Lsame
  have F_Ltext := fun_mk (st := s_Ltext) l_Ltext c_Ltext k_Ltext
  have B_Ltext := F_Ltext.binds (ps := ["_law_web_here", "_law_order_here"]) fun _ _ _ _ _ _ us hl => match us, hl with | [_, _], _ => rfl
  have g_Ltext := PySem.W.mg_of X G a_Ltext
  have F_Lkinds := fun_mk (st := s_Lkinds) l_Lkinds c_Lkinds k_Lkinds
  have B_Lkinds := F_Lkinds.binds (ps := ["_law_e"]) fun _ _ _ _ _ _ us hl => match us, hl with | [_], _ => rfl
  have g_Lkinds := PySem.W.mg_of X G a_Lkinds
  have F_Lread := fun_mk (st := s_Lread) l_Lread c_Lread k_Lread
  have B_Lread := F_Lread.binds (ps := ["_law_text_here"]) fun _ _ _ _ _ _ us hl => match us, hl with | [_], _ => rfl
  have g_Lread := PySem.W.mg_of X G a_Lread
  have F_law := fun_mk (st := s_law) l_law c_law k_law
  have B_law := F_law.binds (ps := ["_law_script"]) fun _ _ _ _ _ _ us hl => match us, hl with | [_], _ => rfl
  have g_law := PySem.W.mg_of X G a_law
  have y_len := PySem.W.mg_none_of X G z_len
  have y_range := PySem.W.mg_none_of X G z_range
  have y_MOST_FIGURES : ∃ t, mg "MOST_FIGURES" = some (.int 60 t) := ⟨_, PySem.W.mg_of X G z_MOST_FIGURES⟩
  have y_FIGURES : ∃ t, mg "FIGURES" = some (.str (Str.ofString "0123456789") t) := ⟨_, PySem.W.mg_of X G z_FIGURES⟩
  have y_int := PySem.W.mg_none_of X G z_int
  have y_MOST_PLACES : ∃ t, mg "MOST_PLACES" = some (.int 25 t) := ⟨_, PySem.W.mg_of X G z_MOST_PLACES⟩
  have y_MOST_TIES : ∃ t, mg "MOST_TIES" = some (.int 24 t) := ⟨_, PySem.W.mg_of X G z_MOST_TIES⟩
  have y_max := PySem.W.mg_none_of X G z_max
  have y_tuple := PySem.W.mg_none_of X G z_tuple
  have y_sorted := PySem.W.mg_none_of X G z_sorted
  have y_min := PySem.W.mg_none_of X G z_min
  have y_all := PySem.W.mg_none_of X G z_all
  have y_isinstance := PySem.W.mg_none_of X G z_isinstance
  have y_str := PySem.W.mg_none_of X G z_str
  have y_abs := PySem.W.mg_none_of X G z_abs
  have y_bool := PySem.W.mg_none_of X G z_bool
  have y_zip := PySem.W.mg_none_of X G z_zip
  have y_ValueError := PySem.W.mg_none_of X G z_ValueError
  have y_repr := PySem.W.mg_none_of X G z_repr
  have gx_NoText := PySem.W.mg_of X G xa_NoText
  have gx_NoWeb := PySem.W.mg_of X G xa_NoWeb
  have gx_NoOrder := PySem.W.mg_of X G xa_NoOrder
  have gx_NoNumber := PySem.W.mg_of X G xa_NoNumber
  have gx_NoEnd := PySem.W.mg_of X G xa_NoEnd
  have gx_NoTie := PySem.W.mg_of X G xa_NoTie
  have gx_NoPlace := PySem.W.mg_of X G xa_NoPlace
  have gx_NoTable := PySem.W.mg_of X G xa_NoTable
  have gx_NoRing := PySem.W.mg_of X G xa_NoRing
  have gx_NoPaper := PySem.W.mg_of X G xa_NoPaper
  have gx_Apart := PySem.W.mg_of X G xa_Apart
  have gx_TooMany := PySem.W.mg_of X G xa_TooMany
  have gx_TooGreat := PySem.W.mg_of X G xa_TooGreat
  have gx_NoName := PySem.W.mg_of X G xa_NoName
  have gx_NoRow := PySem.W.mg_of X G xa_NoRow
  have gx_FloorError := PySem.W.mg_of X G xa_FloorError
  have xn_NoText := xa_NoText
  have xc_NoText : ExcC K C_NoText := ⟨xchg_NoText, xchk_NoText, xchs_NoText, xchd_NoText, xcha_NoText, xcn_NoText, xct_NoText, xchm_NoText⟩
  have kk_NoText_NoWeb : PySem.W.kitOne K (.ref C_NoText) (.ref C_NoWeb) = some false := (kit_ref xs_NoText_NoText xd_NoWeb xt_NoWeb xs_NoText_NoWeb)
  have kk_NoText_NoOrder : PySem.W.kitOne K (.ref C_NoText) (.ref C_NoOrder) = some false := (kit_ref xs_NoText_NoText xd_NoOrder xt_NoOrder xs_NoText_NoOrder)
  have kk_NoText_NoNumber : PySem.W.kitOne K (.ref C_NoText) (.ref C_NoNumber) = some false := (kit_ref xs_NoText_NoText xd_NoNumber xt_NoNumber xs_NoText_NoNumber)
  have kk_NoText_NoEnd : PySem.W.kitOne K (.ref C_NoText) (.ref C_NoEnd) = some false := (kit_ref xs_NoText_NoText xd_NoEnd xt_NoEnd xs_NoText_NoEnd)
  have kk_NoText_NoTie : PySem.W.kitOne K (.ref C_NoText) (.ref C_NoTie) = some false := (kit_ref xs_NoText_NoText xd_NoTie xt_NoTie xs_NoText_NoTie)
  have kk_NoText_NoPlace : PySem.W.kitOne K (.ref C_NoText) (.ref C_NoPlace) = some false := (kit_ref xs_NoText_NoText xd_NoPlace xt_NoPlace xs_NoText_NoPlace)
  have kk_NoText_NoTable : PySem.W.kitOne K (.ref C_NoText) (.ref C_NoTable) = some false := (kit_ref xs_NoText_NoText xd_NoTable xt_NoTable xs_NoText_NoTable)
  have kk_NoText_NoRing : PySem.W.kitOne K (.ref C_NoText) (.ref C_NoRing) = some false := (kit_ref xs_NoText_NoText xd_NoRing xt_NoRing xs_NoText_NoRing)
  have kk_NoText_NoPaper : PySem.W.kitOne K (.ref C_NoText) (.ref C_NoPaper) = some false := (kit_ref xs_NoText_NoText xd_NoPaper xt_NoPaper xs_NoText_NoPaper)
  have kk_NoText_Apart : PySem.W.kitOne K (.ref C_NoText) (.ref C_Apart) = some false := (kit_ref xs_NoText_NoText xd_Apart xt_Apart xs_NoText_Apart)
  have kk_NoText_TooMany : PySem.W.kitOne K (.ref C_NoText) (.ref C_TooMany) = some false := (kit_ref xs_NoText_NoText xd_TooMany xt_TooMany xs_NoText_TooMany)
  have kk_NoText_TooGreat : PySem.W.kitOne K (.ref C_NoText) (.ref C_TooGreat) = some false := (kit_ref xs_NoText_NoText xd_TooGreat xt_TooGreat xs_NoText_TooGreat)
  have kk_NoText_NoText : PySem.W.kitOne K (.ref C_NoText) (.ref C_NoText) = some true := (kit_ref xs_NoText_NoText xd_NoText xt_NoText xs_NoText_NoText)
  have kk_NoText_NoName : PySem.W.kitOne K (.ref C_NoText) (.ref C_NoName) = some false := (kit_ref xs_NoText_NoText xd_NoName xt_NoName xs_NoText_NoName)
  have kk_NoText_NoRow : PySem.W.kitOne K (.ref C_NoText) (.ref C_NoRow) = some false := (kit_ref xs_NoText_NoText xd_NoRow xt_NoRow xs_NoText_NoRow)
  have kk_NoText_ValueError : PySem.W.kitOne K (.ref C_NoText) (.type "ValueError") = some true := (kit_bty (by decide +kernel) xs_NoText_ValueError)
  have xe_NoText_FloorError : PySem.W.exmOne K (.ref C_NoText) (.ref C_FloorError) = some true := PySem.W.exm_ref xb_FloorError xd_FloorError xt_FloorError xs_NoText_FloorError
  have kk_NoText_FloorError : PySem.W.kitOne K (.ref C_NoText) (.ref C_FloorError) = some true := (kit_ref xs_NoText_NoText xd_FloorError xt_FloorError xs_NoText_FloorError)
  refine ⟨PySem.W.fnOf "law" "law" (defArgs s_law) (defBody s_law) (defScope s_law) .none kV_law dc_law pm_law an_law cd_law ct_law, fun s v => .of_eq rfl, fun base _ _ => ?_⟩
  have FI_NoText := fun_mk (st := s_NoText_init) xli_NoText xci_NoText xki_NoText
  have BI_NoText := FI_NoText.binds (ps := ["self", "row"]) fun _ _ _ _ _ _ us hl => match us, hl with | [_, _], _ => rfl
  have xr_NoText : RowE P w K mg base "NoText" C_NoText := ⟨gx_NoText, fI_NoText, _, _, ⟨⟨oexL xl_NoText xo_NoText, xsa_NoText, xb_NoText, xt_NoText, xk_NoText⟩, xi_NoText, xti_NoText, xv_NoText⟩, row_NoText FI_NoText gx_FloorError ⟨xr2_NoText, xr1_FloorError⟩ xr3_NoText, BI_NoText⟩
  have G_place_of : FnOk P w K mg base (L2N.CX P w) 1 f_place_of _ ["web", "end"] (spD K mg sem_place_of_8c4c 2) := ok_place_of (k := 0) F_place_of 
  have G_ends_of : FnOk P w K mg base (L2N.CX P w) 1 f_ends_of _ ["web"] (spD K mg sem_ends_of_168e 1) := ok_ends_of (k := 0) F_ends_of y_len
  have G_ends_at : FnOk P w K mg base (L2N.CX P w) 2 f_ends_at _ ["web", "place"] (spD K mg sem_ends_at_2b9c 2) := ok_ends_at (k := 1) F_ends_at (G_ends_of.mono (by decide : 1 ≤ 1)) g_ends_of k_ends_of B_ends_of (G_place_of.mono (by decide : 1 ≤ 1)) g_place_of k_place_of B_place_of y_range
  have G_number_in : FnOk P w K mg base (L2N.CX P w) 1 f_number_in _ ["word"] (spD K mg sem_number_in_80b2 1) := ok_number_in (k := 0) F_number_in y_len y_MOST_FIGURES y_FIGURES y_int
  have G_Reader___init__ : FnOk P w K mg base (L2N.CX P w) 1 f_Reader___init__ _ ["self"] (spD K mg sem_Reader___init___5752 1) := ok_Reader___init__ (k := 0) F_Reader___init__ oc_Reader na_Reader_many na_Reader_ties na_Reader_rows na_Reader_last
  have G_Reader_takes_places : FnOk P w K mg base (L2N.CX P w) 1 f_Reader_takes_places _ ["self", "numbers"] (spD K mg sem_Reader_takes_places_9bde 2) := ok_Reader_takes_places (k := 0) F_Reader_takes_places y_len y_MOST_PLACES oc_Reader na_Reader_many
  have G_Reader_takes_tie : FnOk P w K mg base (L2N.CX P w) 1 f_Reader_takes_tie _ ["self", "numbers"] (spD K mg sem_Reader_takes_tie_7da9 2) := ok_Reader_takes_tie (k := 0) F_Reader_takes_tie y_len y_MOST_TIES y_max oc_Reader na_Reader_last na_Reader_ties na_Reader_many
  have G_Reader_web : FnOk P w K mg base (L2N.CX P w) 1 f_Reader_web _ ["self"] (spD K mg sem_Reader_web_9457 1) := ok_Reader_web (k := 0) F_Reader_web y_tuple oc_Reader na_Reader_many na_Reader_ties
  have G_Reader_takes_at : FnOk P w K mg base (L2N.CX P w) 3 f_Reader_takes_at _ ["self", "numbers"] (spD K mg sem_Reader_takes_at_5118 2) := ok_Reader_takes_at (k := 2) F_Reader_takes_at (G_ends_at.mono (by decide : 2 ≤ 2)) g_ends_at k_ends_at B_ends_at (G_Reader_web.mono (by decide : 1 ≤ 2)) g_Reader_web k_Reader_web B_Reader_web y_len y_sorted y_min y_tuple oc_Reader na_Reader_last na_Reader_many na_Reader_rows
  have G_Reader_takes : FnOk P w K mg base (L2N.CX P w) 4 f_Reader_takes _ ["self", "line"] (spD K mg sem_Reader_takes_c2ed 2) := ok_Reader_takes (k := 3) F_Reader_takes (G_number_in.mono (by decide : 1 ≤ 3)) g_number_in k_number_in B_number_in (G_Reader_takes_places.mono (by decide : 1 ≤ 3)) g_Reader_takes_places k_Reader_takes_places B_Reader_takes_places (G_Reader_takes_tie.mono (by decide : 1 ≤ 3)) g_Reader_takes_tie k_Reader_takes_tie B_Reader_takes_tie (G_Reader_takes_at.mono (by decide : 3 ≤ 3)) g_Reader_takes_at k_Reader_takes_at B_Reader_takes_at oc_Reader
  have G_Reader_is_done : FnOk P w K mg base (L2N.CX P w) 3 f_Reader_is_done _ ["self"] (spD K mg sem_Reader_is_done_a1c1 1) := ok_Reader_is_done (k := 2) F_Reader_is_done (G_ends_at.mono (by decide : 2 ≤ 2)) g_ends_at k_ends_at B_ends_at (G_Reader_web.mono (by decide : 1 ≤ 2)) g_Reader_web k_Reader_web B_Reader_web y_range y_all oc_Reader na_Reader_many na_Reader_rows
  have G_Reader_floor : FnOk P w K mg base (L2N.CX P w) 2 f_Reader_floor _ ["self"] (spD K mg sem_Reader_floor_fb3f 1) := ok_Reader_floor (k := 1) F_Reader_floor (G_Reader_web.mono (by decide : 1 ≤ 1)) g_Reader_web k_Reader_web B_Reader_web y_range y_tuple oc_Reader na_Reader_many na_Reader_rows
  have G_read : FnOk P w K mg base (L2N.CX P w) 5 f_read _ ["text"] (spD K mg sem_read_4cf3R 1) := ok_read (k := 4) F_read G_Reader___init__ (by decide) g_Reader___init__ k_Reader___init__ B_Reader___init__ (G_Reader_takes.mono (by decide : 4 ≤ 4)) g_Reader_takes k_Reader_takes B_Reader_takes (G_Reader_is_done.mono (by decide : 3 ≤ 4)) g_Reader_is_done k_Reader_is_done B_Reader_is_done (G_Reader_floor.mono (by decide : 2 ≤ 4)) g_Reader_floor k_Reader_floor B_Reader_floor y_isinstance y_str y_len y_range xr_NoText oc_Reader (by decide : 2 ≤ 4)
  have G_Lpen : FnOk P w K mg base (L2N.CX P w) 1 f_Lpen _ ["_law_script"] (spD K mg sem_Lpen_3d2f 1) := ok_Lpen (k := 0) F_Lpen 
  have G_Ldraw : FnOk P w K mg base (L2N.CX P w) 1 f_Ldraw _ ["_law_pen_here", "_law_many"] (spD K mg sem_Ldraw_de5b 2) := ok_Ldraw (k := 0) F_Ldraw y_len y_abs
  have G_Lweb : FnOk P w K mg base (L2N.CX P w) 2 f_Lweb _ ["_law_pen_here", "_law_places", "_law_ties"] (spD K mg sem_Lweb_0350 3) := ok_Lweb (k := 1) F_Lweb (G_Ldraw.mono (by decide : 1 ≤ 1)) g_Ldraw k_Ldraw B_Ldraw y_range y_min y_tuple
  have G_Lorder : FnOk P w K mg base (L2N.CX P w) 2 f_Lorder _ ["_law_pen_here", "_law_web_here"] (spD K mg sem_Lorder_8e8e 2) := ok_Lorder (k := 1) F_Lorder (G_Ldraw.mono (by decide : 1 ≤ 1)) g_Ldraw k_Ldraw B_Ldraw y_range y_len y_max y_min y_tuple
  have G_Lwhole : FnOk P w K mg base (L2N.CX P w) 1 f_Lwhole _ ["_law_found"] (spD K mg sem_Lwhole_6385 1) := ok_Lwhole (k := 0) F_Lwhole y_isinstance y_int y_bool
  have G_Lsame : FnOk P w K mg base (L2N.CX P w) 7 f_Lsame _ ["_law_found", "_law_due"] (spD K mg (sem_Lsame_3cff 6) 2) := oks_Lsame (k := 1) F_Lsame g_Lsame B_Lsame (G_Lwhole.mono (by decide : 1 ≤ 1)) g_Lwhole k_Lwhole B_Lwhole y_isinstance y_tuple y_len y_zip y_all 6
  have G_Ltext : FnOk P w K mg base (L2N.CX P w) 1 f_Ltext _ ["_law_web_here", "_law_order_here"] (spD K mg sem_Ltext_bb53 2) := ok_Ltext (k := 0) F_Ltext y_str y_range y_len
  have G_Lkinds : FnOk P w K mg base (L2N.CX P w) 1 f_Lkinds _ ["_law_e"] (spD K mg sem_Lkinds_aa30 1) := ok_Lkinds (k := 0) F_Lkinds y_isinstance y_range y_ValueError gx_NoWeb xn_NoText xc_NoText kk_NoText_NoWeb gx_NoOrder kk_NoText_NoOrder gx_NoNumber kk_NoText_NoNumber gx_NoEnd kk_NoText_NoEnd gx_NoTie kk_NoText_NoTie gx_NoPlace kk_NoText_NoPlace gx_NoTable kk_NoText_NoTable gx_NoRing kk_NoText_NoRing gx_NoPaper kk_NoText_NoPaper gx_Apart kk_NoText_Apart gx_TooMany kk_NoText_TooMany gx_TooGreat kk_NoText_TooGreat gx_NoText kk_NoText_NoText gx_NoName kk_NoText_NoName gx_NoRow kk_NoText_NoRow kk_NoText_ValueError
  have G_Lread : FnOk P w K mg base (L2N.CX P w) 6 f_Lread _ ["_law_text_here"] (spD K mg sem_Lread_4f6eR 1) := ok_Lread (k := 5) F_Lread (G_read.mono (by decide : 5 ≤ 5)) g_read k_read B_read xc_NoText xv_NoText gx_NoText xe_NoText_FloorError gx_FloorError g_Lkinds k_Lkinds B_Lkinds (okk_KRNoText_4390 (k := 4) F_Lkinds y_isinstance y_range y_ValueError gx_NoWeb xc_NoText kk_NoText_NoWeb gx_NoOrder kk_NoText_NoOrder gx_NoNumber kk_NoText_NoNumber gx_NoEnd kk_NoText_NoEnd gx_NoTie kk_NoText_NoTie gx_NoPlace kk_NoText_NoPlace gx_NoTable kk_NoText_NoTable gx_NoRing kk_NoText_NoRing gx_NoPaper kk_NoText_NoPaper gx_Apart kk_NoText_Apart gx_TooMany kk_NoText_TooMany gx_TooGreat kk_NoText_TooGreat gx_NoText kk_NoText_NoText gx_NoName kk_NoText_NoName gx_NoRow kk_NoText_NoRow kk_NoText_ValueError)
  have G_law : FnAt P w K mg base callerA f_law _ ["_law_script"] (spD K mg sem_law_9135R 1) := ok_law (k := 7) ⟨rfl, by decide, by decide⟩ rfl F_law (G_Lpen.mono (by decide : 1 ≤ 7)) g_Lpen k_Lpen B_Lpen (G_Lweb.mono (by decide : 2 ≤ 7)) g_Lweb k_Lweb B_Lweb (G_Lorder.mono (by decide : 2 ≤ 7)) g_Lorder k_Lorder B_Lorder (G_Ltext.mono (by decide : 1 ≤ 7)) g_Ltext k_Ltext B_Ltext (G_Ldraw.mono (by decide : 1 ≤ 7)) g_Ldraw k_Ldraw B_Ldraw (G_Lread.mono (by decide : 6 ≤ 7)) g_Lread k_Lread B_Lread (G_Lwhole.mono (by decide : 1 ≤ 7)) g_Lwhole k_Lwhole B_Lwhole (G_Lsame.mono (by decide : 7 ≤ 7)) g_Lsame k_Lsame B_Lsame (G_read.mono (by decide : 5 ≤ 7)) g_read k_read B_read (G_Lkinds.mono (by decide : 1 ≤ 7)) g_Lkinds k_Lkinds B_Lkinds y_range y_repr y_isinstance xr_NoText xn_NoText gx_FloorError xc_NoText kk_NoText_FloorError xv_NoText (by decide : 2 ≤ 7)
  exact G_law
end
end Lw
end

section
namespace Lw
open PySem DL
theorem law_true (ns : List Int) (h : ns.length ≤ 63) : ∃ ys, ys.length = 1 ∧ sem_law_9135R [.fz (scrD ns)] = some (.ok (.val (.bool true)), ys) := by
  obtain ⟨o, ys, e, rfl, hl⟩ := law85_ok ns h
  exact ⟨ys, hl, e⟩
end Lw
end

section
open PySem PySem.W PyProof.Rows
set_option maxRecDepth 100000 in
set_option maxHeartbeats 0 in
theorem PySem.Challenge.cw_holefloor_k85_no_texts_holds : PySem.Challenge.rw_holefloor_k85_no_texts.Holds := by
  w_on; o_law; k_head; (case hw => w_witness2)
  k_fill
  refine DL.walk_dG (l := PySem.Challenge.rw_holefloor_k85_no_texts) (n := 63) (x := "_law_script") (sem := Lw.sem_law_9135R) rfl (by decide) rfl (fun w h Y => PySem.W.kIn_of Y) Lw.law_true ?F
  case F =>
    intro w mg fa h KX G hmg
    refine' Lw.all_mk KX G hmg ?oa_Reader ?og_Reader ?od_Reader ?oo_Reader ?os_Reader ?om_Reader ?ok_Reader ?na_Reader_last ?na_Reader_many ?na_Reader_rows ?na_Reader_ties ?a_place_of ?l_place_of ?c_place_of ?k_place_of ?a_ends_of ?l_ends_of ?c_ends_of ?k_ends_of ?a_ends_at ?l_ends_at ?c_ends_at ?k_ends_at ?a_number_in ?l_number_in ?c_number_in ?k_number_in ?a_Reader___init__ ?i_Reader___init__ ?l_Reader___init__ ?c_Reader___init__ ?k_Reader___init__ ?a_Reader_takes_places ?i_Reader_takes_places ?l_Reader_takes_places ?c_Reader_takes_places ?k_Reader_takes_places ?a_Reader_takes_tie ?i_Reader_takes_tie ?l_Reader_takes_tie ?c_Reader_takes_tie ?k_Reader_takes_tie ?a_Reader_web ?i_Reader_web ?l_Reader_web ?c_Reader_web ?k_Reader_web ?a_Reader_takes_at ?i_Reader_takes_at ?l_Reader_takes_at ?c_Reader_takes_at ?k_Reader_takes_at ?a_Reader_takes ?i_Reader_takes ?l_Reader_takes ?c_Reader_takes ?k_Reader_takes ?a_Reader_is_done ?i_Reader_is_done ?l_Reader_is_done ?c_Reader_is_done ?k_Reader_is_done ?a_Reader_floor ?i_Reader_floor ?l_Reader_floor ?c_Reader_floor ?k_Reader_floor ?a_read ?l_read ?c_read ?k_read ?a_Lpen ?l_Lpen ?c_Lpen ?k_Lpen ?a_Ldraw ?l_Ldraw ?c_Ldraw ?k_Ldraw ?a_Lweb ?l_Lweb ?c_Lweb ?k_Lweb ?a_Lorder ?l_Lorder ?c_Lorder ?k_Lorder ?a_Lwhole ?l_Lwhole ?c_Lwhole ?k_Lwhole ?a_Lsame ?l_Lsame ?c_Lsame ?k_Lsame ?a_Ltext ?l_Ltext ?c_Ltext ?k_Ltext ?a_Lkinds ?l_Lkinds ?c_Lkinds ?k_Lkinds ?a_Lread ?l_Lread ?c_Lread ?k_Lread ?a_law ?l_law ?c_law ?k_law ?z_len ?z_range ?z_MOST_FIGURES ?z_FIGURES ?z_int ?z_MOST_PLACES ?z_MOST_TIES ?z_max ?z_tuple ?z_sorted ?z_min ?z_all ?z_isinstance ?z_str ?z_abs ?z_bool ?z_zip ?z_ValueError ?z_repr ?xa_NoText ?xa_NoWeb ?xa_NoOrder ?xa_NoNumber ?xa_NoEnd ?xa_NoTie ?xa_NoPlace ?xa_NoTable ?xa_NoRing ?xa_NoPaper ?xa_Apart ?xa_TooMany ?xa_TooGreat ?xa_NoName ?xa_NoRow ?xa_FloorError ?xl_NoText ?xo_NoText ?xsa_NoText ?xb_NoText ?xt_NoText ?xk_NoText ?xi_NoText ?xti_NoText ?xv_NoText ?xli_NoText ?xci_NoText ?xki_NoText ?xr1_FloorError ?xr2_NoText ?xr3_NoText ?xchg_NoText ?xchk_NoText ?xchs_NoText ?xchd_NoText ?xcha_NoText ?xchm_NoText ?xcn_NoText ?xct_NoText ?xs_NoText_NoText ?xd_NoWeb ?xt_NoWeb ?xs_NoText_NoWeb ?xd_NoOrder ?xt_NoOrder ?xs_NoText_NoOrder ?xd_NoNumber ?xt_NoNumber ?xs_NoText_NoNumber ?xd_NoEnd ?xt_NoEnd ?xs_NoText_NoEnd ?xd_NoTie ?xt_NoTie ?xs_NoText_NoTie ?xd_NoPlace ?xt_NoPlace ?xs_NoText_NoPlace ?xd_NoTable ?xt_NoTable ?xs_NoText_NoTable ?xd_NoRing ?xt_NoRing ?xs_NoText_NoRing ?xd_NoPaper ?xt_NoPaper ?xs_NoText_NoPaper ?xd_Apart ?xt_Apart ?xs_NoText_Apart ?xd_TooMany ?xt_TooMany ?xs_NoText_TooMany ?xd_TooGreat ?xt_TooGreat ?xs_NoText_TooGreat ?xd_NoText ?xd_NoName ?xt_NoName ?xs_NoText_NoName ?xd_NoRow ?xt_NoRow ?xs_NoText_NoRow ?xs_NoText_ValueError ?xb_FloorError ?xd_FloorError ?xt_FloorError ?xs_NoText_FloorError
    (case oa_Reader => k_is); (case og_Reader => k_is); (case od_Reader => k_is); (case oo_Reader => k_is); (case os_Reader => k_is); (case om_Reader => k_is); (case ok_Reader => k_is); (case na_Reader_last => k_is); (case na_Reader_many => k_is); (case na_Reader_rows => k_is); (case na_Reader_ties => k_is); (case a_place_of => k_is); (case l_place_of => k_is); (case c_place_of => k_is); (case k_place_of => k_is); (case a_ends_of => k_is); (case l_ends_of => k_is); (case c_ends_of => k_is); (case k_ends_of => k_is); (case a_ends_at => k_is); (case l_ends_at => k_is); (case c_ends_at => k_is); (case k_ends_at => k_is); (case a_number_in => k_is); (case l_number_in => k_is); (case c_number_in => k_is); (case k_number_in => k_is); (case a_Reader___init__ => k_is); (case i_Reader___init__ => k_is); (case l_Reader___init__ => k_is); (case c_Reader___init__ => k_is); (case k_Reader___init__ => k_is); (case a_Reader_takes_places => k_is); (case i_Reader_takes_places => k_is); (case l_Reader_takes_places => k_is); (case c_Reader_takes_places => k_is); (case k_Reader_takes_places => k_is); (case a_Reader_takes_tie => k_is); (case i_Reader_takes_tie => k_is); (case l_Reader_takes_tie => k_is); (case c_Reader_takes_tie => k_is); (case k_Reader_takes_tie => k_is); (case a_Reader_web => k_is); (case i_Reader_web => k_is); (case l_Reader_web => k_is); (case c_Reader_web => k_is); (case k_Reader_web => k_is); (case a_Reader_takes_at => k_is); (case i_Reader_takes_at => k_is); (case l_Reader_takes_at => k_is); (case c_Reader_takes_at => k_is); (case k_Reader_takes_at => k_is); (case a_Reader_takes => k_is); (case i_Reader_takes => k_is); (case l_Reader_takes => k_is); (case c_Reader_takes => k_is); (case k_Reader_takes => k_is); (case a_Reader_is_done => k_is); (case i_Reader_is_done => k_is); (case l_Reader_is_done => k_is); (case c_Reader_is_done => k_is); (case k_Reader_is_done => k_is); (case a_Reader_floor => k_is); (case i_Reader_floor => k_is); (case l_Reader_floor => k_is); (case c_Reader_floor => k_is); (case k_Reader_floor => k_is); (case a_read => k_is); (case l_read => k_is); (case c_read => k_is); (case k_read => k_is); (case a_Lpen => k_is); (case l_Lpen => k_is); (case c_Lpen => k_is); (case k_Lpen => k_is); (case a_Ldraw => k_is); (case l_Ldraw => k_is); (case c_Ldraw => k_is); (case k_Ldraw => k_is); (case a_Lweb => k_is); (case l_Lweb => k_is); (case c_Lweb => k_is); (case k_Lweb => k_is); (case a_Lorder => k_is); (case l_Lorder => k_is); (case c_Lorder => k_is); (case k_Lorder => k_is); (case a_Lwhole => k_is); (case l_Lwhole => k_is); (case c_Lwhole => k_is); (case k_Lwhole => k_is); (case a_Lsame => k_is); (case l_Lsame => k_is); (case c_Lsame => k_is); (case k_Lsame => k_is); (case a_Ltext => k_is); (case l_Ltext => k_is); (case c_Ltext => k_is); (case k_Ltext => k_is); (case a_Lkinds => k_is); (case l_Lkinds => k_is); (case c_Lkinds => k_is); (case k_Lkinds => k_is); (case a_Lread => k_is); (case l_Lread => k_is); (case c_Lread => k_is); (case k_Lread => k_is); (case a_law => k_is); (case l_law => k_is); (case c_law => k_is); (case k_law => k_is); (case z_len => k_is); (case z_range => k_is); (case z_MOST_FIGURES => k_is); (case z_FIGURES => k_is); (case z_int => k_is); (case z_MOST_PLACES => k_is); (case z_MOST_TIES => k_is); (case z_max => k_is); (case z_tuple => k_is); (case z_sorted => k_is); (case z_min => k_is); (case z_all => k_is); (case z_isinstance => k_is); (case z_str => k_is); (case z_abs => k_is); (case z_bool => k_is); (case z_zip => k_is); (case z_ValueError => k_is); (case z_repr => k_is); (case xa_NoText => k_is); (case xa_NoWeb => k_is); (case xa_NoOrder => k_is); (case xa_NoNumber => k_is); (case xa_NoEnd => k_is); (case xa_NoTie => k_is); (case xa_NoPlace => k_is); (case xa_NoTable => k_is); (case xa_NoRing => k_is); (case xa_NoPaper => k_is); (case xa_Apart => k_is); (case xa_TooMany => k_is); (case xa_TooGreat => k_is); (case xa_NoName => k_is); (case xa_NoRow => k_is); (case xa_FloorError => k_is); (case xl_NoText => k_is); (case xo_NoText => exact ⟨_, _, _, _, _, _, _, _, _, _, _, _, _, _, _, rfl, rfl⟩); (case xsa_NoText => k_is); (case xb_NoText => k_is); (case xt_NoText => k_is); (case xk_NoText => k_is); (case xi_NoText => k_is); (case xti_NoText => k_is); (case xv_NoText => k_is); (case xli_NoText => k_is); (case xci_NoText => k_is); (case xki_NoText => k_is); (case xr1_FloorError => k_is); (case xr2_NoText => k_is); (case xr3_NoText => k_is); (case xchg_NoText => k_is); (case xchk_NoText => k_is); (case xchs_NoText => k_is); (case xchd_NoText => k_is); (case xcha_NoText => k_is); (case xchm_NoText => k_is); (case xcn_NoText => k_is); (case xct_NoText => k_is); (case xs_NoText_NoText => k_is); (case xd_NoWeb => k_is); (case xt_NoWeb => k_is); (case xs_NoText_NoWeb => k_is); (case xd_NoOrder => k_is); (case xt_NoOrder => k_is); (case xs_NoText_NoOrder => k_is); (case xd_NoNumber => k_is); (case xt_NoNumber => k_is); (case xs_NoText_NoNumber => k_is); (case xd_NoEnd => k_is); (case xt_NoEnd => k_is); (case xs_NoText_NoEnd => k_is); (case xd_NoTie => k_is); (case xt_NoTie => k_is); (case xs_NoText_NoTie => k_is); (case xd_NoPlace => k_is); (case xt_NoPlace => k_is); (case xs_NoText_NoPlace => k_is); (case xd_NoTable => k_is); (case xt_NoTable => k_is); (case xs_NoText_NoTable => k_is); (case xd_NoRing => k_is); (case xt_NoRing => k_is); (case xs_NoText_NoRing => k_is); (case xd_NoPaper => k_is); (case xt_NoPaper => k_is); (case xs_NoText_NoPaper => k_is); (case xd_Apart => k_is); (case xt_Apart => k_is); (case xs_NoText_Apart => k_is); (case xd_TooMany => k_is); (case xt_TooMany => k_is); (case xs_NoText_TooMany => k_is); (case xd_TooGreat => k_is); (case xt_TooGreat => k_is); (case xs_NoText_TooGreat => k_is); (case xd_NoText => k_is); (case xd_NoName => k_is); (case xt_NoName => k_is); (case xs_NoText_NoName => k_is); (case xd_NoRow => k_is); (case xt_NoRow => k_is); (case xs_NoText_NoRow => k_is); (case xs_NoText_ValueError => k_is); (case xb_FloorError => k_is); (case xd_FloorError => k_is); (case xt_FloorError => k_is); (case xs_NoText_FloorError => k_is)
end
