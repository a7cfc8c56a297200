import PyProof.Rows.All
import PySem.PyData
import PySem.Str
import HandS.ForMost
import HandS.Exc
import HandS.TryOnly
import HandS.ExcOwn
import HandS.WordsExc
import HandS.TupAny
import HandS.HotCalls
import HandS.Lambda
import PyProof.P3Statements
import PyProof.Lay0
import HandS.Wide
import HandS.IsInst
import HandS.Deep
import HandS.TupMul
import HandS.Zip
import HandS.Rev
import HandS.More
import HandS.Strs
import HandS.WordsDict
import HandS.Style
import KE.DataMinMax
import KE.SortData
import HandS.SortInts
import HandS.Conv
import KE.GoesMore
import HandS.SetFor
import HandS.SetKeys
import HandS.ExcIs
import HandS.RevRange
import HandS.WideBits
import PyProof.ReprLen
import PyProof.ReprRoads
import KE.KTupSum
import HandS.EndTab
import HandS.Text
import HandS.Dict
import HandS.DictSubView
import HandS.SortKw
import HandS.CallLocal
import KE.KDictWalk
import KE.KDictList
import KE.KDictSum
import HandS.EndOwn
import Wide.All
import OpenK.AllK
import Wide.FinOn
import PySem.Challenge.RW_holefloor_k01_webs_made
set_option Elab.async false
set_option linter.all false
set_option maxRecDepth 100000
section
namespace DL
open PySem
abbrev D := PyData
abbrev Ky := Sum Int Str
/-- what an owned mutable object holds -/
inductive Ct where
  | lst (ds : List D)
  | dK (kvs : List (Ky × D))
  | dT (kvs : List (List Ky × D))
  /-- a list of lists, all of them owned -/
  | ll (rows : List (List D))
  /-- a dict of lists, all of them owned -/
  | dl (kvs : List (Ky × List D))
  /-- the table of a code object, at P; its codes bear the name q -/
  | tab (P : Nat) (q : Str)
/-- a slot: nothing known; shared data that stands still; an owned object. The Bool: a parameter lent by the caller -/
inductive Sl where
  | non
  | frz (b : Bool) (d : D)
  | own (b : Bool) (c : Ct)
  /-- the k-th list of the list of lists in slot j -/
  | al (j k : Nat)
abbrev Ro := List Sl
/-- an expression's result: data that stands still, or a new object of one's own -/
inductive RV where
  | val (d : D)
  | new (c : Ct)
structure Exn where
  cls : String
  row : Option Int
inductive EO (α : Type) where
  | ok (a : α)
  | exc (x : Exn)
def M (α : Type) := Ro → Option (EO α × Ro)
def M.bind {α β : Type} (m : M α) (f : α → M β) : M β := fun r => match m r with
  | none => none
  | some (.ok a, r') => f a r'
  | some (.exc x, r') => some (.exc x, r')
def M.ret {α : Type} (a : α) : M α := fun r => some (.ok a, r)
def M.of {α : Type} (o : Option α) : M α := fun r => o.map fun a => (.ok a, r)
/-- an operand: a slot looked at when the operation is done, or a value -/
inductive AV where
  | slot (i : Nat)
  | val (d : D)
/-- an operand looked at -/
inductive Rs where
  | fz (d : D)
  | ow (c : Ct)
def look (r : Ro) : AV → Option Rs
  | .val d => some (.fz d)
  | .slot i => match r[i]? with
    | some (.frz _ d) => some (.fz d)
    | some (.own _ c) => some (.ow c)
    | _ => none
/-- no slot looks into slot i -/
def noAl (r : Ro) (i : Nat) : Bool := r.all fun x => match x with
  | .al j _ => j != i
  | _ => true
/-- .. a list in a list of lists, too -/
def look2 (r : Ro) : AV → Option Rs
  | .val d => some (.fz d)
  | .slot i => match r[i]? with
    | some (.frz _ d) => some (.fz d)
    | some (.own _ c) => some (.ow c)
    | some (.al j k) => match r[j]? with
      | some (.own _ (.ll rows)) => rows[k]?.map fun ds => .ow (.lst ds)
      | _ => none
    | _ => none
def looks2 (r : Ro) : List AV → Option (List Rs)
  | [] => some []
  | a :: as => match look2 r a, looks2 r as with
    | some x, some xs => some (x :: xs)
    | _, _ => none
def looks (r : Ro) : List AV → Option (List Rs)
  | [] => some []
  | a :: as => match look r a, looks r as with
    | some x, some xs => some (x :: xs)
    | _, _ => none
def Ct.data : Ct → Option D
  | .lst ds => some (.list ds)
  | _ => none
def Rs.data : Rs → Option D
  | .fz d => some d
  | .ow c => c.data
/-- a new result stands still from now on -/
def RV.data : RV → Option D
  | .val d => some d
  | .new c => c.data
/-- the slot read as a value: what was owned stands still from now on -/
def mRd (i : Nat) : M RV := fun r => match r[i]? with
  | some (.frz _ d) => some (.ok (.val d), r)
  | some (.own b (.lst ds)) => some (.ok (.val (.list ds)), r.set i (.frz b (.list ds)))
  | some (.own b (.ll rows)) => some (.ok (.val (.list (rows.map .list))), r.set i (.frz b (.list (rows.map .list))))
  | _ => none
def mC (d : D) : M RV := M.ret (.val d)
/-- an operand by its slot; by an expression -/
def oS (i : Nat) : M AV := fun r => match look2 r (.slot i) with
  | some _ => some (.ok (.slot i), r)
  | none => none
def oE (m : M RV) : M AV := m.bind fun rv => M.of (rv.data.map .val)
def oL : List (M AV) → M (List AV)
  | [] => M.ret []
  | m :: ms => m.bind fun a => (oL ms).bind fun as => M.ret (a :: as)
/-- the operation, its operands looked at -/
def mFin (g : List Rs → Option RV) (as : List AV) : M RV := fun r => match looks2 r as with
  | none => none
  | some xs => (g xs).map fun v => (.ok v, r)
def mOp (g : List Rs → Option RV) (os : List (M AV)) : M RV := (oL os).bind (mFin g)
end DL
end

section
namespace DL
open PySem PySem.Spec PyProof.Rows L2
def TP (o : Obj) : Prop := o.cls = .type "tuple" ∧ o.dict = none
/-- a tuple whose object is known to have no dict -/
def TupAt (H : Hp) (a : Addr) (xs : List V) : Prop := ∃ o, TP o ∧ H a = some (.frz o (.tup xs))
theorem TupAt.sq {K : PySem.W.Frag} {H : Hp} {a : Addr} {xs : List V} (h : TupAt H a xs) : SqT K H a xs := let ⟨o, _, e⟩ := h; .inl (.inr ⟨o, e⟩)
theorem tup_same {H H' : Hp} {a : Addr} {xs : List V} (e : Same H H') (h : TupAt H a xs) : TupAt H' a xs := let ⟨o, t, q⟩ := h; ⟨o, t, e _ _ q⟩
theorem tupAt_new {H : Hp} {p : Addr} {o : Obj} {xs : List V} (t : TP o) : TupAt (upd H p (.frz o (.tup xs))) p xs := ⟨o, t, upd_same⟩
section
variable {X : Cx} {pins : List (Addr × Obj)} {σ : L2.St} {H : Hp} {s : Shared}
theorem Inv.layT {its : List Value} {xs : List V} {t' : Nat} {h' : Heap} (I : Inv X pins σ H s) (k : ∀ b u, s.heap.get? b = some u → h'.get? b = some u) (hs : h'.objs.size = s.heap.objs.size) (hv : Vals xs its) (hz : xs.length ≤ sizeLine) :
    Inv X pins σ (upd H h'.objs.size (.frz { cls := .type "tuple", data := .seq its.toArray } (.tup xs))) { s with heap := h'.push { cls := .type "tuple", data := .seq its.toArray }, toks := t' } := by
  have e := Heap.get?_push_size h' (o := { cls := .type "tuple", data := .seq its.toArray }) rfl
  exact I.laid (fun b o q => Heap.get?_push_of_some _ (k b o q)) (by rw [hs]; exact Nat.le_refl _) ⟨e, hz, its, hv, ⟨_, e, rfl, _, rfl⟩⟩
theorem fe_tup {es : List Expr} {t : TA} {x1 : Nat} {pos : Pos} (h : PA X es t) : PE X (.Tuple es x1 pos) (fun σ H Q => t σ H fun xs H1 => xs.length ≤ sizeLine ∧ ∀ p o, H1 p = none → TP o → Q (.ref p) (upd H1 p (.frz o (.tup xs)))) := by
  refine ⟨fun pins s σ H Q I hq => ?_⟩
  refine wpAny_Tuple_spliced (thn (h.run pos pins s σ H _ I hq) fun us s1 ⟨xs, H1, I1, r, z, q⟩ => ⟨by rw [← r.length]; exact z, ?_⟩)
  have hf : H1 s1.heap.objs.size = none := I1.hok.fresh (Nat.le_refl _)
  exact ⟨.ref s1.heap.objs.size, _, Inv.layT (t' := s1.toks) I1 (fun b u e => e) rfl r z, rfl, q _ _ hf ⟨rfl, rfl⟩⟩
theorem fcall_tuple : CallR X (.type "tuple") (fun xs H Q => ∃ p ys, xs = [.ref p] ∧ ((SqL X.K H p ys ∧ ∀ l o, H l = none → TP o → Q (.ref l) (upd H l (.frz o (.tup ys)))) ∨ (SqT X.K H p ys ∧ Q (.ref p) H))) := by
  intro pins s σ H xs us Q I r h
  obtain ⟨p, ys, rfl, h⟩ := h
  obtain ⟨u, rfl, rx⟩ := vals1 r
  cases rx
  rcases h with ⟨hq, q⟩ | ⟨hq, q⟩
  · obtain ⟨its, r', pl, hz⟩ := I.list hq
    have hlen := r'.length
    refine call_tuple_list pl.isList (fun h' kp => ?_) (by simp only [List.size_toArray] <;> omega)
    have I1 : Inv X pins σ H { s with heap := h' } := I.kept (t' := s.toks) kp
    exact ⟨.ref h'.objs.size, _, Inv.layT (s := { s with heap := h' }) (t' := s.toks) I1 (fun b u e => e) rfl r' hz, rfl, q _ _ (I1.hok.fresh (Nat.le_refl _)) ⟨rfl, rfl⟩⟩
  · obtain ⟨its, r', pl, hz⟩ := I.tuple hq
    exact call_tuple_same pl ⟨.ref p, H, I, rfl, q⟩
theorem fop_cat : OpR X (binaryOp .Add) (fun x y H Q => ∃ a b xs ys, x = .ref a ∧ y = .ref b ∧ SqT X.K H a xs ∧ SqT X.K H b ys ∧ xs.length + ys.length ≤ sizeLine ∧
    (xs = [] → Q (.ref b) H) ∧ (xs ≠ [] → ys = [] → Q (.ref a) H) ∧ (xs ≠ [] → ys ≠ [] → ∀ p o, H p = none → TP o → Q (.ref p) (upd H p (.frz o (.tup (xs ++ ys)))))) := by
  intro pins s σ H x y v u Q I rx ry h
  obtain ⟨a, b, xs, ys, rfl, rfl, ha, hb, hz, q0, q1, q2⟩ := h
  cases rx
  cases ry
  obtain ⟨its, r1, p1, _⟩ := I.tuple ha
  obtain ⟨its2, r2, p2, _⟩ := I.tuple hb
  by_cases hx : xs = []
  · subst hx
    cases r1
    exact cat_tup0 p1 p2 ⟨.ref b, H, I, rfl, q0 rfl⟩
  · refine HT.cat_tup p1 p2 (fun z => hx (r1.nil_iff.mp z)) (fun z => ⟨.ref a, H, I, rfl, q1 hx (r2.nil_iff.mp z)⟩) (fun z => ?_) (by rw [← r1.length, ← r2.length]; exact hz)
    exact ⟨.ref s.heap.objs.size, _, Inv.layT (t' := s.toks) I (fun b u e => e) rfl (r1.append r2) (by rw [List.length_append]; exact hz), rfl, q2 hx (fun w => z (r2.nil_iff.mpr w)) _ _ (I.hok.fresh (Nat.le_refl _)) ⟨rfl, rfl⟩⟩
def rSlF (K : PySem.W.Frag) : V → Option Int → Option Int → Hp → VK → Prop := fun x lo hi H Q => ∃ a xs, x = .ref a ∧ SqT K H a xs ∧
  (HT.sIx xs.length 0 lo = 0 ∧ HT.sIx xs.length xs.length hi = xs.length → Q (.ref a) H) ∧ (¬ (HT.sIx xs.length 0 lo = 0 ∧ HT.sIx xs.length xs.length hi = xs.length) → ∀ p o, H p = none → TP o → Q (.ref p) (upd H p (.frz o (.tup (cutV xs lo hi)))))
theorem fsl_tup : SlR X (rSlF X.K) := by
  intro pins s σ H x v vl vu lo hi sl Q I rx hs pl pu h
  obtain ⟨a, xs, rfl, hx, q1, q2⟩ := h
  cases rx
  obtain ⟨its, r, ht, hz⟩ := I.tuple hx
  have hlen : its.toArray.size = xs.length := by rw [List.size_toArray]; exact r.length.symm
  refine ⟨"tuple", _, PyProof.Rows.slot_tuple_getitem.lookup, ht.typeIs, ?_⟩
  by_cases hw : HT.sIx xs.length 0 lo = 0 ∧ HT.sIx xs.length xs.length hi = xs.length
  · exact getItem_tuple_whole ht hs pl pu (by rw [hlen]; exact hw) ⟨.ref a, H, I, rfl, q1 hw⟩
  · refine HT.getItem_tuple_cut ht hs pl pu (by rw [hlen]; exact hw) ?_ (by rw [hlen]; exact hz)
    rw [hlen]
    exact ⟨.ref s.heap.objs.size, _, Inv.layT (t' := s.toks) I (fun b u e => e) rfl ((r.drop (HT.sIx xs.length 0 lo)).take (HT.sIx xs.length xs.length hi - HT.sIx xs.length 0 lo)) (Nat.le_trans (cutV_length xs lo hi) hz), rfl, q2 hw _ _ (I.hok.fresh (Nat.le_refl _)) ⟨rfl, rfl⟩⟩
end
end DL
end

section
namespace DL
open PySem
/-- the data of a key; the pairs of a dict that stands still -/
def kD : Ky → D
  | .inl n => .int n
  | .inr s => .str s
def dkD (ks : List Ky) (ds : List D) : List (D × D) := List.zipWith (fun k d => (kD k, d)) ks ds
/-- a first key that tells that it is a dict -/
def oneI : List (D × D) → Bool
  | (.int _, _) :: _ => true
  | (.str _, .str _) :: _ => true
  | _ => false
def fnD (x : Str) : D := .dict [(.str x, .none)]
end DL
end

section
namespace DL
open PySem PySem.Spec PyProof.Rows L2

theorem sqt_same {K : PySem.W.Frag} {H H' : Hp} {a : Addr} {xs : List V} (e : Same H H') (h : SqT K H a xs) : SqT K H' a xs := by
  rcases h with (h | ⟨o, h⟩) | h
  · exact .inl (.inl (e _ _ h))
  · exact .inl (.inr ⟨o, e _ _ h⟩)
  · exact .inr h
/-- data in the heap; a dict stands here for the law's script, which is only ever cut -/
def scrD (ns : List Int) : D := .dict ((.none, .none) :: ns.map fun n => (.int n, .none))
mutual
inductive Dq (K : PySem.W.Frag) (H : Hp) : V → D → Prop
  | non : Dq K H .non .none
  | bl (b : Bool) : Dq K H (.bl b) (.bool b)
  | int (i : Int) : Dq K H (.int i) (.int i)
  | str (x : Str) : Dq K H (.str x) (.str x)
  | lst {a : Addr} {xs : List V} {ds : List D} : H a = some (.lst xs) → DqAll K H xs ds → Dq K H (.ref a) (.list ds)
  | tup {a : Addr} {xs : List V} {ds : List D} : TupAt H a xs → DqAll K H xs ds → Dq K H (.ref a) (.tuple ds)
  | scr {a : Addr} {ns : List Int} {d : D} : SqL K H a (ns.map V.int) → d = scrD ns → Dq K H (.ref a) d
  | dic {a : Addr} : H a = some (.dK []) → Dq K H (.ref a) (.dict [])
  | dii {a : Addr} {kvs : List (Ky × V)} {ds : List D} {l : List (D × D)} {d : D} : H a = some (.dK kvs) → DqAll K H (kvs.map (·.2)) ds → l = dkD (kvs.map (·.1)) ds → DL.oneI l = true → d = .dict l → Dq K H (.ref a) d
  | fn {a : Addr} {x : Str} {d : D} : PySem.W.nsIn K mainGlobals x = some (some (.ref a)) → d = fnD x → Dq K H (.ref a) d
inductive DqAll (K : PySem.W.Frag) (H : Hp) : List V → List D → Prop
  | nil : DqAll K H [] []
  | cons {v : V} {vs : List V} {d : D} {ds : List D} : Dq K H v d → DqAll K H vs ds → DqAll K H (v :: vs) (d :: ds)
end
mutual
theorem dp_same {K : PySem.W.Frag} {H H' : Hp} (e : Same H H') : ∀ {v : V} {d : D}, Dq K H v d → Dq K H' v d
  | _, _, .non => .non
  | _, _, .bl b => .bl b
  | _, _, .int i => .int i
  | _, _, .str x => .str x
  | _, _, .lst s a => .lst (e _ _ s) (dpa_same e a)
  | _, _, .scr s h => .scr (e.seq s) h
  | _, _, .fn s h => .fn s h
  | _, _, .dic s => .dic (e _ _ s)
  | _, _, .dii s h e1 e2 e3 => .dii (e _ _ s) (dpa_same e h) e1 e2 e3
  | _, _, .tup s a => .tup (tup_same e s) (dpa_same e a)
theorem dpa_same {K : PySem.W.Frag} {H H' : Hp} (e : Same H H') : ∀ {vs : List V} {ds : List D}, DqAll K H vs ds → DqAll K H' vs ds
  | _, _, .nil => .nil
  | _, _, .cons h t => .cons (dp_same e h) (dpa_same e t)
end
theorem DqAll.length {K : PySem.W.Frag} {H : Hp} : ∀ {vs : List V} {ds : List D}, DqAll K H vs ds → vs.length = ds.length
  | _, _, .nil => rfl
  | _, _, .cons _ t => by simp [DqAll.length t]
theorem DqAll.get {K : PySem.W.Frag} {H : Hp} : ∀ {vs : List V} {ds : List D} {i : Nat} {d : D}, DqAll K H vs ds → ds[i]? = some d → ∃ v, vs[i]? = some v ∧ Dq K H v d
  | _, _, _, _, .nil, e => by simp at e
  | _, _, 0, _, .cons h _, e => by simp at e; subst e; exact ⟨_, rfl, h⟩
  | _, _, i + 1, _, .cons _ t, e => by
    obtain ⟨v, h1, h2⟩ := DqAll.get (i := i) t (by simpa using e)
    exact ⟨v, by simpa using h1, h2⟩
theorem DqAll.append {K : PySem.W.Frag} {H : Hp} : ∀ {vs ws : List V} {ds es : List D}, DqAll K H vs ds → DqAll K H ws es → DqAll K H (vs ++ ws) (ds ++ es)
  | _, _, _, _, .nil, s => s
  | _, _, _, _, .cons h t, s => .cons h (DqAll.append t s)
theorem DqAll.take {K : PySem.W.Frag} {H : Hp} : ∀ {vs : List V} {ds : List D} (n : Nat), DqAll K H vs ds → DqAll K H (vs.take n) (ds.take n)
  | _, _, 0, _ => by simpa using DqAll.nil
  | _, _, _ + 1, .nil => .nil
  | _, _, n + 1, .cons h t => .cons h (DqAll.take n t)
theorem DqAll.drop {K : PySem.W.Frag} {H : Hp} : ∀ {vs : List V} {ds : List D} (n : Nat), DqAll K H vs ds → DqAll K H (vs.drop n) (ds.drop n)
  | _, _, 0, h => by simpa using h
  | _, _, _ + 1, .nil => .nil
  | _, _, n + 1, .cons _ t => DqAll.drop n t
theorem DqAll.set {K : PySem.W.Frag} {H : Hp} {v : V} {d : D} (r : Dq K H v d) : ∀ {vs : List V} {ds : List D} (i : Nat), DqAll K H vs ds → DqAll K H (vs.set i v) (ds.set i d)
  | _, _, _, .nil => .nil
  | _, _, 0, .cons _ t => .cons r t
  | _, _, i + 1, .cons h t => .cons h (DqAll.set r i t)
theorem DqAll.eraseIdx {K : PySem.W.Frag} {H : Hp} : ∀ {vs : List V} {ds : List D} (i : Nat), DqAll K H vs ds → DqAll K H (vs.eraseIdx i) (ds.eraseIdx i)
  | _, _, _, .nil => .nil
  | _, _, 0, .cons _ t => t
  | _, _, i + 1, .cons h t => .cons h (DqAll.eraseIdx i t)
theorem DqAll.reverse {K : PySem.W.Frag} {H : Hp} {vs : List V} {ds : List D} (h : DqAll K H vs ds) : DqAll K H vs.reverse ds.reverse := by
  induction vs generalizing ds with
  | nil => cases h; exact .nil
  | cons v vs ih =>
    cases h with
    | cons h t =>
      rw [List.reverse_cons, List.reverse_cons]
      exact DqAll.append (ih t) (.cons h .nil)
theorem dp_list {K : PySem.W.Frag} {H : Hp} {v : V} {ds : List D} (h : Dq K H v (.list ds)) : ∃ a xs, v = .ref a ∧ H a = some (.lst xs) ∧ DqAll K H xs ds := by
  cases h with
  | lst s a => exact ⟨_, _, rfl, s, a⟩
  | scr s h => cases h
  | fn s h => cases h
  | dii _ _ _ _ h => cases h
theorem dp_tuple {K : PySem.W.Frag} {H : Hp} {v : V} {ds : List D} (h : Dq K H v (.tuple ds)) : ∃ a xs, v = .ref a ∧ TupAt H a xs ∧ DqAll K H xs ds := by
  cases h with
  | tup s a => exact ⟨_, _, rfl, s, a⟩
  | scr s h => cases h
  | fn s h => cases h
  | dii _ _ _ _ h => cases h
mutual
theorem dq_dp {K : PySem.W.Frag} {H : Hp} : ∀ {v : V} {d : D}, Dq K H v d → d.canLay0 = true → Dp K H v d
  | _, _, .non, _ => .non
  | _, _, .bl b, _ => .bl b
  | _, _, .int i, _ => .int i
  | _, _, .str x, _ => .str x
  | _, _, .lst s a, h => .lst (.inl (.inl s)) (dqa_dpa a (by simpa [PyData.canLay0] using h))
  | _, _, .tup s a, h => .tup s.sq (dqa_dpa a (by simpa [PyData.canLay0] using h))
  | _, _, .scr s e, h => by subst e; simp [scrD, PyData.canLay0] at h
  | _, _, .fn s e, h => by subst e; simp [fnD, PyData.canLay0] at h
  | _, _, .dic s, h => by simp [PyData.canLay0] at h
  | _, _, .dii s _ _ _ e, h => by subst e; simp [PyData.canLay0] at h
theorem dqa_dpa {K : PySem.W.Frag} {H : Hp} : ∀ {vs : List V} {ds : List D}, DqAll K H vs ds → PyData.canLayAll0 ds = true → DpAll K H vs ds
  | _, _, .nil, _ => .nil
  | _, _, .cons a t, h => by
    simp only [PyData.canLayAll0, Bool.and_eq_true] at h
    exact .cons (dq_dp a h.1) (dqa_dpa t h.2)
end
theorem dp_int {K : PySem.W.Frag} {H : Hp} {v : V} {i : Int} (h : Dq K H v (.int i)) : v = .int i := by
  cases h with
  | int => rfl
  | scr s h => cases h
  | fn s h => cases h
  | dii _ _ _ _ h => cases h
theorem dp_bl {K : PySem.W.Frag} {H : Hp} {v : V} {i : Bool} (h : Dq K H v (.bool i)) : v = .bl i := by
  cases h with
  | bl => rfl
  | scr s h => cases h
  | fn s h => cases h
  | dii _ _ _ _ h => cases h
theorem dp_str {K : PySem.W.Frag} {H : Hp} {v : V} {i : Str} (h : Dq K H v (.str i)) : v = .str i := by
  cases h with
  | str => rfl
  | scr s h => cases h
  | fn s h => cases h
  | dii _ _ _ _ h => cases h
theorem dp_non {K : PySem.W.Frag} {H : Hp} {v : V} (h : Dq K H v .none) : v = .non := by
  cases h with
  | non => rfl
  | scr s h => cases h
  | fn s h => cases h
  | dii _ _ _ _ h => cases h

abbrev KvR (K : PySem.W.Frag) (B : Hp) {κ : Type} : List (κ × V) → List (κ × D) → Prop := Paired fun p q => p.1 = q.1 ∧ Dq K B p.2 q.2
theorem kvr_same {K : PySem.W.Frag} {B B' : Hp} (e : Same B B') {κ : Type} : ∀ {l : List (κ × V)} {m : List (κ × D)}, KvR K B l m → KvR K B' l m
  | _, _, .nil => .nil
  | _, _, .cons h t => .cons ⟨h.1, dp_same e h.2⟩ (kvr_same e t)
/-- the lists at as hold the rows -/
def RowsAt (K : PySem.W.Frag) (B H : Hp) : List Addr → List (List D) → Prop := Paired fun a ds => ∃ vs, H a = some (.lst vs) ∧ DqAll K B vs ds
theorem rowsAt_same {K : PySem.W.Frag} {B H B' H' : Hp} (e : Same B B') : ∀ {as : List Addr} {rows : List (List D)}, RowsAt K B H as rows → (∀ a ∈ as, H' a = H a) → RowsAt K B' H' as rows
  | _, _, .nil, _ => .nil
  | _, _, .cons h t, k => .cons (by obtain ⟨vs, h1, h2⟩ := h; exact ⟨vs, by rw [k _ List.mem_cons_self]; exact h1, dpa_same e h2⟩) (rowsAt_same e t fun a ha => k a (List.mem_cons_of_mem _ ha))
theorem rowsAt_some {K : PySem.W.Frag} {B H : Hp} : ∀ {as : List Addr} {rows : List (List D)}, RowsAt K B H as rows → ∀ a ∈ as, H a ≠ none
  | _, _, .nil, a, h => by cases h
  | _, _, .cons h t, a, ha => by
    rcases List.mem_cons.mp ha with rfl | ha
    · obtain ⟨vs, h1, _⟩ := h; rw [h1]; simp
    · exact rowsAt_some t a ha
/-- the entries of a dict of lists -/
def dlV (kvs : List (Ky × List D)) (as : List Addr) : List (Ky × V) := List.zipWith (fun kv a => (kv.1, V.ref a)) kvs as
theorem dlV_inj : ∀ {kvs : List (Ky × List D)} {as bs : List Addr}, as.length = kvs.length → bs.length = kvs.length → dlV kvs as = dlV kvs bs → as = bs
  | [], [], [], _, _, _ => rfl
  | [], _ :: _, _, h, _, _ => by simp at h
  | [], _, _ :: _, _, h, _ => by simp at h
  | _ :: _, [], _, h, _, _ => by simp at h
  | _ :: _, _, [], _, h, _ => by simp at h
  | kv :: kvs, a :: as, b :: bs, h1, h2, h => by
    simp only [dlV, List.zipWith_cons_cons, List.cons.injEq, Prod.mk.injEq, V.ref.injEq, true_and] at h
    rw [h.1, dlV_inj (kvs := kvs) (by simpa using h1) (by simpa using h2) h.2]
/-- the hash of a tuple of whole numbers; a dict with such keys; its entries as the slots' meanings -/
def tHash (ks : List Int) : Int := reduceHash (Builtin.Tuple.tupleHashOf (ks.map hashInt))
def DTob (l : Addr) (xs : List (List Int × Addr × Value)) (h : Heap) : Prop :=
  ∃ o es ep, h.get? l = some o ∧ o.ExactDict ∧ o.data = .dict es ep ∧ es.toList = xs.map fun x => (⟨tHash x.1, .ref x.2.1, x.2.2⟩ : DictEntry)
def DTo (l : Addr) (xs : List (List Int × Addr × Value)) : HO := .ext (DTob l xs)
def TkP (K : PySem.W.Frag) (B : Hp) : List (List Int × Addr × Value) → List (List Ky × D) → Prop :=
  Paired fun x kv => kv.1 = x.1.map Sum.inl ∧ TupAt B x.2.1 (x.1.map V.int) ∧ ∃ v, RelV v x.2.2 ∧ Dq K B v kv.2
def TkR (K : PySem.W.Frag) (B : Hp) (l : Addr) (xs : List (List Int × Addr × Value)) (kvs : List (List Ky × D)) : Prop :=
  (l == sysModules) = false ∧ xs.length ≤ sizeLine ∧ (xs.map (·.1)).Nodup ∧ TkP K B xs kvs
theorem tkp_same {K : PySem.W.Frag} {B B' : Hp} (e : Same B B') : ∀ {xs : List (List Int × Addr × Value)} {kvs : List (List Ky × D)}, TkP K B xs kvs → TkP K B' xs kvs
  | _, _, .nil => .nil
  | _, _, .cons h t => .cons (by obtain ⟨h1, h2, v, h3, h4⟩ := h; exact ⟨h1, tup_same e h2, v, h3, dp_same e h4⟩) (tkp_same e t)
theorem tkr_same {K : PySem.W.Frag} {B B' : Hp} (e : Same B B') {l : Addr} {xs : List (List Int × Addr × Value)} {kvs : List (List Ky × D)} (h : TkR K B l xs kvs) : TkR K B' l xs kvs := ⟨h.1, h.2.1, h.2.2.1, tkp_same e h.2.2.2⟩
/-- the object c stands at l; F: all addresses that are owned by it -/
def OwnR (K : PySem.W.Frag) (B H : Hp) : Ct → Addr → List Addr → Prop
  | .lst ds, l, F => F = [l] ∧ ∃ vs, H l = some (.lst vs) ∧ DqAll K B vs ds
  | .dK kvs, l, F => F = [l] ∧ ∃ vs, H l = some (.dK vs) ∧ KvR K B vs kvs
  | .dT kvs, l, F => F = [l] ∧ ∃ xs, H l = some (DTo l xs) ∧ TkR K B l xs kvs
  | .ll rows, l, F => ∃ as : List Addr, F = l :: as ∧ H l = some (.lst (as.map V.ref)) ∧ (l :: as).Nodup ∧ RowsAt K B H as rows
  | .dl kvs, l, F => ∃ as : List Addr, F = l :: as ∧ H l = some (.dK (dlV kvs as)) ∧ (l :: as).Nodup ∧ RowsAt K B H as (kvs.map (·.2))
  | .tab P q, l, F => F = [l] ∧ ∃ ps : Array Value, H l = some (.tbl ps) ∧ l = P ∧ TriplesOk ps.toList ∧ ∀ (pos : Pos) (cv : Value), codeAmong pos ps.toList = some cv → ∃ c, cv = .ref c ∧ B c = some (LamX.CodeO c q)
theorem rowsAt_len {K : PySem.W.Frag} {B H : Hp} {as : List Addr} {rows : List (List D)} (h : RowsAt K B H as rows) : as.length = rows.length := Paired.length h
theorem ref_inj : ∀ {as bs : List Addr}, as.map V.ref = bs.map V.ref → as = bs
  | [], [], _ => rfl
  | [], _ :: _, h => by cases h
  | _ :: _, [], h => by cases h
  | a :: as, b :: bs, h => by
    simp only [List.map_cons, List.cons.injEq, V.ref.injEq] at h
    rw [h.1, ref_inj h.2]
theorem ownR_mem {K : PySem.W.Frag} {B H : Hp} {c : Ct} {l : Addr} {F : List Addr} (h : OwnR K B H c l F) : l ∈ F := by
  cases c with
  | ll rows => obtain ⟨as, rfl, _⟩ := h; simp
  | dl rows => obtain ⟨as, rfl, _⟩ := h; simp
  | _ => (obtain ⟨rfl, _⟩ := h; simp)
theorem ownR_some {K : PySem.W.Frag} {B H : Hp} {c : Ct} {l : Addr} {F : List Addr} (h : OwnR K B H c l F) : ∀ a ∈ F, H a ≠ none := by
  cases c with
  | ll rows =>
    obtain ⟨as, rfl, e, _, r⟩ := h
    intro a ha
    rcases List.mem_cons.mp ha with rfl | ha
    · rw [e]; simp
    · exact rowsAt_some r a ha
  | dl rows =>
    obtain ⟨as, rfl, e, _, r⟩ := h
    intro a ha
    rcases List.mem_cons.mp ha with rfl | ha
    · rw [e]; simp
    · exact rowsAt_some r a ha
  | _ => (obtain ⟨rfl, vs, e, _⟩ := h; intro a ha; simp at ha; subst ha; rw [e]; simp)
theorem ownR_same {K : PySem.W.Frag} {B H B' H' : Hp} {c : Ct} {l : Addr} {F : List Addr} (h : OwnR K B H c l F) (e : Same B B') (k : ∀ a ∈ F, H' a = H a) : OwnR K B' H' c l F := by
  cases c with
  | lst ds => obtain ⟨rfl, vs, e1, r⟩ := h; exact ⟨rfl, vs, by rw [k l (by simp)]; exact e1, dpa_same e r⟩
  | dK ds => obtain ⟨rfl, vs, e1, r⟩ := h; exact ⟨rfl, vs, by rw [k l (by simp)]; exact e1, kvr_same e r⟩
  | dT ds => obtain ⟨rfl, vs, e1, r⟩ := h; exact ⟨rfl, vs, by rw [k l (by simp)]; exact e1, tkr_same e r⟩
  | ll rows => obtain ⟨as, rfl, e1, nd, r⟩ := h; exact ⟨as, rfl, by rw [k l (by simp)]; exact e1, nd, rowsAt_same e r fun a ha => k a (by simp [ha])⟩
  | dl rows => obtain ⟨as, rfl, e1, nd, r⟩ := h; exact ⟨as, rfl, by rw [k l (by simp)]; exact e1, nd, rowsAt_same e r fun a ha => k a (by simp [ha])⟩
  | tab P q => obtain ⟨rfl, ps, e1, h1, h2, h3⟩ := h; exact ⟨rfl, ps, by rw [k l (by simp)]; exact e1, h1, h2, fun pos cv g => by obtain ⟨c, g1, g2⟩ := h3 pos cv g; exact ⟨c, g1, e _ _ g2⟩⟩
theorem ownR_uniq {K : PySem.W.Frag} {B H B' H' : Hp} {c : Ct} {l : Addr} {F F' : List Addr} (h : OwnR K B H c l F) (h' : OwnR K B' H' c l F') (k : ∀ a ∈ F, H' a = H a) : F' = F := by
  cases c with
  | ll rows =>
    obtain ⟨as, rfl, e1, _⟩ := h
    obtain ⟨as', rfl, e1', _⟩ := h'
    rw [k l (by simp), e1] at e1'
    have := HO.lst.inj (Option.some.inj e1')
    rw [ref_inj this]
  | dl rows =>
    obtain ⟨as, rfl, e1, _, r⟩ := h
    obtain ⟨as', rfl, e1', _, r'⟩ := h'
    rw [k l (by simp), e1] at e1'
    have := HO.dK.inj (Option.some.inj e1')
    rw [dlV_inj (by simpa using rowsAt_len r) (by simpa using rowsAt_len r') this]
  | _ => (obtain ⟨rfl, _⟩ := h; obtain ⟨rfl, _⟩ := h'; rfl)

/-- the slots' meaning: B: what stands still; O: what is owned -/
structure Con0 (K : PySem.W.Frag) (B H : Hp) (σ : L2.St) (r : Ro) (O : Addr → Prop) : Prop where
  sub : Same B H
  off : ∀ a, O a → B a = none
  liv : ∀ a, O a → H a ≠ none
  len : r.length = σ.length
  frz : ∀ (i : Nat) b d, r[i]? = some (Sl.frz b d) → ∃ v, σ[i]? = some (some v) ∧ Dq K B v d
  own : ∀ (i : Nat) b c, r[i]? = some (Sl.own b c) → ∃ l F, σ[i]? = some (some (V.ref l)) ∧ OwnR K B H c l F ∧ ∀ a ∈ F, O a
  sep : ∀ (i j : Nat) b c b' c' l l' F F', i ≠ j → r[i]? = some (Sl.own b c) → r[j]? = some (Sl.own b' c') → σ[i]? = some (some (V.ref l)) → σ[j]? = some (some (V.ref l')) →
    OwnR K B H c l F → OwnR K B H c' l' F' → ∀ a ∈ F, a ∉ F'
/-- slots that look into a list of lists -/
def Al (H : Hp) (σ : L2.St) (r : Ro) : Prop := ∀ (i j k : Nat), r[i]? = some (Sl.al j k) → ∀ b rows l (as : List Addr), r[j]? = some (Sl.own b (.ll rows)) → σ[j]? = some (some (V.ref l)) → H l = some (.lst (as.map V.ref)) →
  ∃ a, as[k]? = some a ∧ σ[i]? = some (some (V.ref a))
structure Con (K : PySem.W.Frag) (B H : Hp) (σ : L2.St) (r : Ro) (O : Addr → Prop) : Prop extends Con0 K B H σ r O where
  al : Al H σ r
/-- from one state to a later one -/
structure Step (B H : Hp) (O : Addr → Prop) (B' H' : Hp) (O' : Addr → Prop) : Prop where
  sB : Same B B'
  keep : ∀ a o, H a = some o → ¬ O a → H' a = some o
  live : ∀ a, H a ≠ none → H' a ≠ none
  nB : ∀ a, H a ≠ none → ¬ O a → B a = none → B' a = none
  nO : ∀ a, O' a → O a ∨ H a = none
theorem Step.refl {B H : Hp} {O : Addr → Prop} : Step B H O B H O := ⟨Same.refl _, fun _ _ h _ => h, fun _ h => h, fun _ _ _ h => h, fun _ h => .inl h⟩
theorem Step.trans {B H B1 H1 B2 H2 : Hp} {O O1 O2 : Addr → Prop} (s : Step B H O B1 H1 O1) (t : Step B1 H1 O1 B2 H2 O2) : Step B H O B2 H2 O2 := by
  have no1 : ∀ a, H a ≠ none → ¬ O a → ¬ O1 a := fun a h n h1 => (s.nO a h1).elim n h
  refine ⟨s.sB.trans t.sB, fun a o h n => t.keep a o (s.keep a o h n) (no1 a (by rw [h]; simp) n), fun a h => t.live a (s.live a h), fun a h n b => t.nB a (s.live a h) (no1 a h n) (s.nB a h n b), fun a h => ?_⟩
  rcases t.nO a h with h | h
  · exact s.nO a h
  · by_cases q : H a = none
    · exact .inr q
    · exact absurd h (s.live a q)
/-- a lent parameter's slot stays -/
def pinned : Sl → Bool
  | .frz b _ => b
  | .own b _ => b
  | .non => false
  | .al _ _ => false
def Bor (r : Ro) (σ : L2.St) (r' : Ro) (σ' : L2.St) : Prop := ∀ (i : Nat) (x : Sl), r[i]? = some x → pinned x = true → (∃ y, r'[i]? = some y ∧ pinned y = true) ∧ σ'[i]? = σ[i]?
theorem Bor.refl {r : Ro} {σ : L2.St} : Bor r σ r σ := fun _ x h p => ⟨⟨x, h, p⟩, rfl⟩
theorem Bor.trans {r r1 r2 : Ro} {σ σ1 σ2 : L2.St} (a : Bor r σ r1 σ1) (b : Bor r1 σ1 r2 σ2) : Bor r σ r2 σ2 := fun i x h p => by
  obtain ⟨⟨y, h1, p1⟩, e1⟩ := a i x h p
  obtain ⟨z, e2⟩ := b i y h1 p1
  exact ⟨z, e2.trans e1⟩

section
variable {K : PySem.W.Frag} {B H B' H' : Hp} {σ : L2.St} {r : Ro} {O O' : Addr → Prop}
/-- nothing that is owned was touched -/
theorem Con0.mono (c : Con0 K B H σ r O) (sB : Same B B') (sH : Same B' H') (k : ∀ a, O a → H' a = H a) (off : ∀ a, O a → B' a = none) : Con0 K B' H' σ r O := by
  refine ⟨sH, off, fun a h => by rw [k a h]; exact c.liv a h, c.len, fun i b d e => ?_, fun i b ct e => ?_, fun i j b c1 b' c2 l l' F F' ne e1 e2 s1 s2 o1 o2 => ?_⟩
  · obtain ⟨v, h1, h2⟩ := c.frz i b d e
    exact ⟨v, h1, dp_same sB h2⟩
  · obtain ⟨l, F, h1, h2, h3⟩ := c.own i b ct e
    exact ⟨l, F, h1, ownR_same h2 sB fun a ha => k a (h3 a ha), h3⟩
  · obtain ⟨m, G, g1, g2, g3⟩ := c.own i b c1 e1
    obtain ⟨m', G', g1', g2', g3'⟩ := c.own j b' c2 e2
    rw [s1] at g1; cases g1
    rw [s2] at g1'; cases g1'
    rw [ownR_uniq g2 o1 fun a ha => k a (g3 a ha), ownR_uniq g2' o2 fun a ha => k a (g3' a ha)]
    exact c.sep i j b c1 b' c2 _ _ _ _ ne e1 e2 s1 s2 g2 g2'
theorem Con.mono (c : Con K B H σ r O) (sB : Same B B') (sH : Same B' H') (k : ∀ a, O a → H' a = H a) (off : ∀ a, O a → B' a = none) : Con K B' H' σ r O :=
  ⟨c.toCon0.mono sB sH k off, fun i j kk h b rows l as h1 h2 h3 => by
    obtain ⟨l0, F, g1, g2, g3⟩ := c.own j b _ h1
    rw [h2] at g1; cases g1
    rw [k _ (g3 _ (ownR_mem g2))] at h3
    exact c.al i j kk h b rows _ as h1 h2 h3⟩
/-- a value's result in the heap; H: the heap at the start -/
def RvR (K : PySem.W.Frag) (H B' H' : Hp) (O' : Addr → Prop) : RV → V → Prop
  | .val d, v => Dq K B' v d
  | .new c, v => ∃ l F, v = .ref l ∧ OwnR K B' H' c l F ∧ ∀ a ∈ F, H a = none ∧ B' a = none ∧ ¬ O' a
def AvR (K : PySem.W.Frag) (B' : Hp) (σ : L2.St) : AV → V → Prop
  | .val d, v => Dq K B' v d
  | .slot i, v => σ[i]? = some (some v)
theorem AvR.same {a : AV} {v : V} (e : Same B B') (h : AvR K B σ a v) : AvR K B' σ a v := by
  cases a with
  | val d => exact dp_same e h
  | slot i => exact h
/-- an operand looked at, in the heap -/
def RsR (K : PySem.W.Frag) (B H : Hp) : Rs → V → Prop
  | .fz d, v => Dq K B v d
  | .ow c, v => ∃ l F, v = .ref l ∧ OwnR K B H c l F
theorem paired_at {α β : Type} {F : α → β → Prop} : ∀ {l : List α} {m : List β} {k : Nat} {y : β}, Paired F l m → m[k]? = some y → ∃ x, l[k]? = some x ∧ F x y
  | _, _, _, _, .nil, e => by simp at e
  | _, _, 0, x, .cons h t, e => by simp at e; subst e; exact ⟨_, rfl, h⟩
  | _, _, k + 1, x, .cons h t, e => by
    obtain ⟨y, h1, h2⟩ := paired_at (k := k) t (by simpa using e)
    exact ⟨y, by simpa using h1, h2⟩
theorem Con.look2_ (c : Con K B H σ r O) {a : AV} {x : Rs} {v : V} (h : look2 r a = some x) (e : AvR K B σ a v) : RsR K B H x v := by
  cases a with
  | val d => cases h; exact e
  | slot i =>
    simp only [DL.look2] at h
    split at h
    · rename_i b d q
      cases h
      obtain ⟨v', h1, h2⟩ := c.frz i b d q
      rw [show σ[i]? = some (some v) from e] at h1; cases h1
      exact h2
    · rename_i b ct q
      cases h
      obtain ⟨l, F, h1, h2, h3⟩ := c.own i b ct q
      rw [show σ[i]? = some (some v) from e] at h1; cases h1
      exact ⟨l, F, rfl, h2⟩
    · rename_i j k q
      split at h
      · rename_i b rows q2
        cases q3 : rows[k]? with
        | none => rw [q3] at h; cases h
        | some ds =>
          rw [q3] at h
          cases h
          obtain ⟨l, F, h1, ⟨as, rfl, h2, nd, ra⟩, h3⟩ := c.own j b _ q2
          obtain ⟨a, g1, g2⟩ := c.al i j k q b rows l as q2 h1 h2
          rw [show σ[i]? = some (some v) from e] at g2; cases g2
          obtain ⟨a', g3, vs, g4, g5⟩ := paired_at ra q3
          rw [g1] at g3; cases g3
          exact ⟨_, _, rfl, rfl, vs, g4, g5⟩
      · cases h
    · cases h
theorem Con.looks2_ (c : Con K B H σ r O) : ∀ {as : List AV} {xs : List Rs} {vs : List V}, looks2 r as = some xs → Paired (AvR K B σ) as vs → Paired (RsR K B H) xs vs
  | [], xs, vs, h, e => by
    cases h; cases e; exact .nil
  | a :: as, xs, vs, h, e => by
    cases e with
    | cons e1 e2 =>
      simp only [DL.looks2] at h
      split at h
      · rename_i x ys h1 h2
        cases h
        exact .cons (c.look2_ h1 e1) (Con.looks2_ c h2 e2)
      · cases h
theorem Con.look (c : Con K B H σ r O) {a : AV} {x : Rs} {v : V} (h : look r a = some x) (e : AvR K B σ a v) : RsR K B H x v := by
  cases a with
  | val d => cases h; exact e
  | slot i =>
    simp only [DL.look] at h
    split at h
    · rename_i b d q
      cases h
      obtain ⟨v', h1, h2⟩ := c.frz i b d q
      rw [show σ[i]? = some (some v) from e] at h1; cases h1
      exact h2
    · rename_i b ct q
      cases h
      obtain ⟨l, F, h1, h2, h3⟩ := c.own i b ct q
      rw [show σ[i]? = some (some v) from e] at h1; cases h1
      exact ⟨l, F, rfl, h2⟩
    · cases h
theorem Con.looks (c : Con K B H σ r O) : ∀ {as : List AV} {xs : List Rs} {vs : List V}, looks r as = some xs → Paired (AvR K B σ) as vs → Paired (RsR K B H) xs vs
  | [], xs, vs, h, e => by
    cases h; cases e; exact .nil
  | a :: as, xs, vs, h, e => by
    cases e with
    | cons e1 e2 =>
      simp only [DL.looks] at h
      split at h
      · rename_i x ys h1 h2
        cases h
        exact .cons (c.look h1 e1) (Con.looks c h2 e2)
      · cases h
/-- what an operation lays -/
def Alc (K : PySem.W.Frag) (B H H' : Hp) : RV → V → Prop
  | .val d, v => (H' = H ∧ Dq K B v d) ∨ (∃ p vs ds o, H p = none ∧ TP o ∧ H' = upd H p (.frz o (.tup vs)) ∧ d = .tuple ds ∧ DqAll K B vs ds ∧ v = .ref p)
  | .new (.lst ds), v => ∃ p vs, H p = none ∧ H' = upd H p (.lst vs) ∧ DqAll K B vs ds ∧ v = .ref p
  | .new (.dK kvs), v => ∃ p vs, H p = none ∧ H' = upd H p (.dK vs) ∧ KvR K B vs kvs ∧ v = .ref p
  | .new (.dT kvs), v => ∃ p xs, H p = none ∧ H' = upd H p (DTo p xs) ∧ TkR K B p xs kvs ∧ v = .ref p
  | .new (.ll _), _ => False
  | .new (.dl _), _ => False
  | .new (.tab _ _), _ => False
theorem same_new {p : Addr} {o : HO} (h : H p = none) : Same H (upd H p o) := fun b x e => by
  rw [upd_ne (ne_of_none e h)]; exact e
theorem Con.lay (c : Con K B H σ r O) {p : Addr} {o : HO} (hp : H p = none) : B p = none ∧ ¬ O p ∧ Con K B (upd H p o) σ r O ∧ Step B H O B (upd H p o) O := by
  have bp : B p = none := c.sub.free hp
  have np : ¬ O p := fun h => c.liv p h hp
  refine ⟨bp, np, c.mono (Same.refl _) (c.sub.trans (same_new hp)) (fun a h => ?_) c.off, ⟨Same.refl _, fun a o h _ => same_new hp _ _ h, fun a h => ?_, fun a _ _ h => h, fun a h => .inl h⟩⟩
  · rw [upd_ne (show a ≠ p from fun e => np (by rw [← e]; exact h))]
  · by_cases e : a = p
    · subst e; exact absurd hp h
    · rw [upd_ne e]; exact h
/-- a new object that stands still -/
theorem Con.layF (c : Con K B H σ r O) {p : Addr} {o : HO} (hp : H p = none) : Con K (upd B p o) (upd H p o) σ r O ∧ Step B H O (upd B p o) (upd H p o) O := by
  obtain ⟨bp, np, c1, s1⟩ := c.lay (o := o) hp
  have off : ∀ a, O a → upd B p o a = none := fun a h => by
    rw [upd_ne (show a ≠ p from fun e => np (by rw [← e]; exact h))]; exact c.off a h
  refine ⟨c1.mono (same_new bp) (fun a x h => ?_) (fun _ _ => rfl) off, ⟨same_new bp, s1.keep, s1.live, fun a h1 h2 h3 => ?_, s1.nO⟩⟩
  · by_cases e : a = p
    · subst e; rw [upd_same] at h ⊢; exact h
    · rw [upd_ne e] at h ⊢; exact c.sub a x h
  · rw [upd_ne (show a ≠ p from fun e => h1 (by rw [e]; exact hp))]; exact h3
theorem Con.alc (c : Con K B H σ r O) {x : RV} {v : V} (h : Alc K B H H' x v) : ∃ B', Step B H O B' H' O ∧ Con K B' H' σ r O ∧ RvR K H B' H' O x v := by
  cases x with
  | val d =>
    rcases h with ⟨rfl, h⟩ | ⟨p, vs, ds, o, hp, ht, rfl, rfl, h, rfl⟩
    · exact ⟨B, .refl, c, h⟩
    · obtain ⟨c1, s1⟩ := c.layF (o := .frz o (.tup vs)) hp
      exact ⟨_, s1, c1, .tup (tupAt_new ht) (dpa_same s1.sB h)⟩
  | new ct =>
    cases ct with
    | lst ds =>
      obtain ⟨p, vs, hp, rfl, h, rfl⟩ := h
      obtain ⟨bp, np, c1, s1⟩ := c.lay (o := .lst vs) hp
      exact ⟨B, s1, c1, p, [p], rfl, ⟨rfl, vs, upd_same, h⟩, fun a ha => by simp at ha; subst ha; exact ⟨hp, bp, np⟩⟩
    | dK kvs =>
      obtain ⟨p, vs, hp, rfl, h, rfl⟩ := h
      obtain ⟨bp, np, c1, s1⟩ := c.lay (o := .dK vs) hp
      exact ⟨B, s1, c1, p, [p], rfl, ⟨rfl, vs, upd_same, h⟩, fun a ha => by simp at ha; subst ha; exact ⟨hp, bp, np⟩⟩
    | dT kvs =>
      obtain ⟨p, vs, hp, rfl, h, rfl⟩ := h
      obtain ⟨bp, np, c1, s1⟩ := c.lay (o := DTo p vs) hp
      exact ⟨B, s1, c1, p, [p], rfl, ⟨rfl, vs, upd_same, h⟩, fun a ha => by simp at ha; subst ha; exact ⟨hp, bp, np⟩⟩
    | ll rows => exact h.elim
    | dl rows => exact h.elim
    | tab _ _ => exact h.elim
/-- an unowned list stands still from now on -/
theorem Con.still (c : Con K B H σ r O) {p : Addr} {o : HO} (hp : H p = some o) (bp : B p = none) (np : ¬ O p) : Con K (upd B p o) H σ r O := by
  refine c.mono (same_new bp) (fun a x h => ?_) (fun _ _ => rfl) fun a h => by rw [upd_ne (show a ≠ p from fun e => np (by rw [← e]; exact h))]; exact c.off a h
  by_cases e : a = p
  · subst e; rw [upd_same] at h; cases h; exact hp
  · rw [upd_ne e] at h; exact c.sub a x h
/-- a new result stands still from now on: its data -/
theorem Con.frozen (c : Con K B' H' σ r O') {x : RV} {d : D} {v : V} (s : Step B H O B' H' O') (h : RvR K H B' H' O' x v) (e : x.data = some d) : ∃ B2, Step B H O B2 H' O' ∧ Con K B2 H' σ r O' ∧ Dq K B2 v d ∧ Same B' B2 := by
  cases x with
  | val d' => cases e; exact ⟨B', s, c, h, Same.refl _⟩
  | new ct =>
    cases ct with
    | lst ds =>
      cases e
      obtain ⟨l, F, rfl, ⟨rfl, vs, e1, h1⟩, h2⟩ := h
      obtain ⟨n1, n2, n3⟩ := h2 l (by simp)
      have c2 := c.still e1 n2 n3
      refine ⟨_, ⟨s.sB.trans (same_new n2), s.keep, s.live, fun a q1 q2 q3 => ?_, s.nO⟩, c2, .lst upd_same (dpa_same (same_new n2) h1), same_new n2⟩
      rw [upd_ne (show a ≠ l from fun e => q1 (by rw [e]; exact n1))]
      exact s.nB a q1 q2 q3
    | dK _ => cases e
    | dT _ => cases e
    | ll _ => cases e
    | dl _ => cases e
    | tab _ _ => cases e
end

/-- how an exception lies: its class -/
def XnR (K : PySem.W.Frag) (mg : Str → Option Value) (x : Exn) (cls : Value) (dx : Option Addr) (H : Hp) : Prop :=
  ∃ C, mg (Str.ofString x.cls) = some (.ref C) ∧ cls = .ref C ∧ match x.row with
    | none => dx = none
    | some n => ∃ d, dx = some d ∧ H d = some (.xd [("row", .int n)])
/-- where meanings are read: the written part, the module's names, what is wanted of an exception -/
structure Ct2 where
  K : PySem.W.Frag
  mg : Str → Option Value
abbrev Rl (α β : Type) := Hp → Hp → Hp → (Addr → Prop) → L2.St → α → β → Prop
/-- m from the state (B, r, O), with an end -/
def At {α β : Type} (G : Ct2) (W : WX) (m : M α) (R : Rl α β) (B : Hp) (r : Ro) (O : Addr → Prop) (σ : L2.St) (H : Hp) (Q : β → Hp → Prop) : Prop :=
  Con G.K B H σ r O ∧ ∃ o r', m r = some (o, r') ∧ match o with
    | .ok a => ∀ B' H' O' y, Step B H O B' H' O' → Con G.K B' H' σ r' O' → Bor r σ r' σ → R H B' H' O' σ a y → Q y H'
    | .exc x => ∀ B' H' O' c dx, Step B H O B' H' O' → Con G.K B' H' σ r' O' → Bor r σ r' σ → XnR G.K G.mg x c dx H' → W c dx σ H'
def tG {α β : Type} (G : Ct2) (W : WX) (m : M α) (R : Rl α β) (σ : L2.St) (H : Hp) (Q : β → Hp → Prop) : Prop := ∃ B r O, At G W m R B r O σ H Q
/-- a later start does -/
def Later {α β : Type} (R : Rl α β) : Prop := ∀ H H1 B' H' O' σ a y, (∀ p, H p ≠ none → H1 p ≠ none) → R H1 B' H' O' σ a y → R H B' H' O' σ a y
def rV (G : Ct2) : Rl RV V := fun H B' H' O' _ x v => RvR G.K H B' H' O' x v
def rA (G : Ct2) : Rl AV V := fun _ B' _ _ σ a v => AvR G.K B' σ a v
def rL (G : Ct2) : Rl (List AV) (List V) := fun _ B' _ _ σ as vs => Paired (AvR G.K B' σ) as vs
def rB : Rl Bool Bool := fun _ _ _ _ _ a b => a = b
theorem later_rV {G : Ct2} : Later (rV G) := fun H H1 B' H' O' σ a y k h => by
  cases a with
  | val d => exact h
  | new c =>
    obtain ⟨l, F, e, o, h⟩ := h
    refine ⟨l, F, e, o, fun a ha => ⟨?_, (h a ha).2⟩⟩
    by_cases q : H a = none
    · exact q
    · exact absurd (h a ha).1 (k a q)
theorem later_rL {G : Ct2} : Later (rL G) := fun _ _ _ _ _ _ _ _ _ h => h
theorem later_rB : Later rB := fun _ _ _ _ _ _ _ _ _ h => h
section
variable {G : Ct2} {W : WX} {α β γ δ : Type} {m : M α} {f : α → M γ} {R : Rl α β} {R2 : Rl γ δ} {B : Hp} {r : Ro} {O : Addr → Prop} {σ : L2.St} {H : Hp}
theorem At.mono {Q Q' : β → Hp → Prop} (h : At G W m R B r O σ H Q) (q : ∀ y H', Q y H' → Q' y H') : At G W m R B r O σ H Q' := by
  obtain ⟨c, o, r', e, p⟩ := h
  refine ⟨c, o, r', e, ?_⟩
  cases o with
  | ok a => exact fun B' H' O' y s c b x => q _ _ (p B' H' O' y s c b x)
  | exc x => exact p
theorem tG.of {Q : β → Hp → Prop} (h : At G W m R B r O σ H Q) : tG G W m R σ H Q := ⟨B, r, O, h⟩
/-- the first of two -/
theorem At.bind {Q : δ → Hp → Prop} (h : At G W (m.bind f) R2 B r O σ H Q) (hl : Later R2) :
    At G W m R B r O σ H fun y H1 => ∃ a B1 r1 O1, Step B H O B1 H1 O1 ∧ R H B1 H1 O1 σ a y ∧ At G W (f a) R2 B1 r1 O1 σ H1 Q := by
  obtain ⟨c, o, r', e, p⟩ := h
  refine ⟨c, ?_⟩
  unfold M.bind at e
  cases q : m r with
  | none => rw [q] at e; cases e
  | some z =>
    obtain ⟨o1, r1⟩ := z
    rw [q] at e
    refine ⟨o1, r1, rfl, ?_⟩
    cases o1 with
    | exc x =>
      cases e
      exact p
    | ok a =>
      intro B1 H1 O1 y s1 c1 b1 x1
      refine ⟨a, B1, r1, O1, s1, x1, c1, o, r', e, ?_⟩
      cases o with
      | ok a2 => exact fun B2 H2 O2 y2 s2 c2 b2 x2 => p B2 H2 O2 y2 (s1.trans s2) c2 (b1.trans b2) (hl H H1 _ _ _ _ _ _ s1.live x2)
      | exc x => exact fun B2 H2 O2 c2 dx s2 k2 b2 x2 => p B2 H2 O2 c2 dx (s1.trans s2) k2 (b1.trans b2) x2
theorem At.ret {a : α} {Q : β → Hp → Prop} (h : At G W (M.ret a) R B r O σ H Q) {y : β} (x : R H B H O σ a y) : Q y H := by
  obtain ⟨c, o, r', e, p⟩ := h
  cases e
  exact p B H O y .refl c .refl x
end
end DL
end

section
namespace DL
open PySem PySem.Spec PyProof.Rows L2

theorem get_set {α : Type} {l : List α} {i j : Nat} {x y : α} (h : (l.set i x)[j]? = some y) : (j = i ∧ y = x) ∨ (j ≠ i ∧ l[j]? = some y) := by
  by_cases e : j = i
  · subst e
    by_cases hl : j < l.length
    · rw [List.getElem?_set_self hl] at h; cases h; exact .inl ⟨rfl, rfl⟩
    · rw [List.getElem?_eq_none (by rw [List.length_set]; omega)] at h; cases h
  · rw [List.getElem?_set_ne (Ne.symm e)] at h; exact .inr ⟨e, h⟩

section
variable {K : PySem.W.Frag} {B H B' H' : Hp} {σ σ' : L2.St} {r : Ro} {O O' : Addr → Prop}
/-- slot i is told anew -/
theorem Con0.replace (c : Con0 K B H σ r O) {i : Nat} {x : Sl} (hl : σ'.length = σ.length) (hs : ∀ j, j ≠ i → σ'[j]? = σ[j]?)
    (hx : match x with
      | .non => True
      | .al _ _ => True
      | .frz _ d => ∃ v, σ'[i]? = some (some v) ∧ Dq K B v d
      | .own _ ct => ∃ l F, σ'[i]? = some (some (V.ref l)) ∧ OwnR K B H ct l F ∧ (∀ a ∈ F, O a) ∧ ∀ (j : Nat) b' c' l' F', j ≠ i → r[j]? = some (Sl.own b' c') → σ[j]? = some (some (V.ref l')) → OwnR K B H c' l' F' → ∀ a ∈ F, a ∉ F') :
    Con0 K B H σ' (r.set i x) O := by
  refine ⟨c.sub, c.off, c.liv, by rw [List.length_set, c.len, hl], fun j b d e => ?_, fun j b ct e => ?_, fun j k b c1 b' c2 l l' F F' ne e1 e2 s1 s2 o1 o2 => ?_⟩
  · rcases get_set e with ⟨rfl, rfl⟩ | ⟨n, e⟩
    · exact hx
    · rw [hs j n]; exact c.frz j b d e
  · rcases get_set e with ⟨rfl, rfl⟩ | ⟨n, e⟩
    · obtain ⟨l, F, h1, h2, h3, _⟩ := hx
      exact ⟨l, F, h1, h2, h3⟩
    · rw [hs j n]; exact c.own j b ct e
  · rcases get_set e1 with ⟨rfl, rfl⟩ | ⟨n1, f1⟩
    · rcases get_set e2 with ⟨rfl, _⟩ | ⟨n2, f2⟩
      · exact absurd rfl ne
      · obtain ⟨m, G, g1, g2, g3, g4⟩ := hx
        rw [s1] at g1; cases g1
        rw [hs k n2] at s2
        rw [ownR_uniq g2 o1 fun a _ => rfl]
        exact g4 k b' c2 l' F' n2 f2 s2 o2
    · rcases get_set e2 with ⟨rfl, rfl⟩ | ⟨n2, f2⟩
      · obtain ⟨m, G, g1, g2, g3, g4⟩ := hx
        rw [s2] at g1; cases g1
        rw [hs j n1] at s1
        rw [ownR_uniq g2 o2 fun a _ => rfl]
        exact fun a ha hb => g4 j b c1 l F n1 f1 s1 o1 a hb ha
      · rw [hs j n1] at s1
        rw [hs k n2] at s2
        exact c.sep j k b c1 b' c2 l l' F F' ne f1 f2 s1 s2 o1 o2
theorem noAl_of {r : Ro} {i i2 k : Nat} (h : noAl r i = true) : r[i2]? ≠ some (Sl.al i k) := fun e => by
  have := List.all_eq_true.mp h _ (List.mem_of_getElem? e)
  simp at this
theorem Con.replace (c : Con K B H σ r O) {i : Nat} {x : Sl} (hl : σ'.length = σ.length) (hs : ∀ j, j ≠ i → σ'[j]? = σ[j]?)
    (hx : match x with
      | .non => True
      | .al _ _ => False
      | .frz _ d => ∃ v, σ'[i]? = some (some v) ∧ Dq K B v d
      | .own _ ct => ∃ l F, σ'[i]? = some (some (V.ref l)) ∧ OwnR K B H ct l F ∧ (∀ a ∈ F, O a) ∧ ∀ (j : Nat) b' c' l' F', j ≠ i → r[j]? = some (Sl.own b' c') → σ[j]? = some (some (V.ref l')) → OwnR K B H c' l' F' → ∀ a ∈ F, a ∉ F')
    (hal : ∀ b rows, x = .own b (.ll rows) → noAl r i = true) : Con K B H σ' (r.set i x) O := by
  refine ⟨c.toCon0.replace hl hs (by cases x <;> first | exact hx | trivial), fun i2 j k h b rows l as h1 h2 h3 => ?_⟩
  rcases get_set h with ⟨rfl, z⟩ | ⟨n, g⟩
  · subst z; exact hx.elim
  · rw [hs i2 n]
    rcases get_set h1 with ⟨rfl, z⟩ | ⟨n1, g1⟩
    · exact absurd g (noAl_of (hal b rows z.symm))
    · rw [hs j n1] at h2
      exact c.al i2 j k g b rows l as g1 h2 h3
theorem Con.forget (c : Con K B H σ r O) (i : Nat) : Con K B H σ (r.set i .non) O := c.replace (x := .non) rfl (fun _ _ => rfl) trivial (fun _ _ e => by cases e)
/-- fewer addresses are owned -/
theorem Con.shrink (c : Con K B H σ r O) (hO : ∀ a, O' a → O a) (hF : ∀ (i : Nat) b ct l F, r[i]? = some (Sl.own b ct) → σ[i]? = some (some (V.ref l)) → OwnR K B H ct l F → ∀ a ∈ F, O' a) : Con K B H σ r O' :=
  ⟨⟨c.sub, fun a h => c.off a (hO a h), fun a h => c.liv a (hO a h), c.len, c.frz, fun i b ct e => by
    obtain ⟨l, F, h1, h2, h3⟩ := c.own i b ct e
    exact ⟨l, F, h1, h2, hF i b ct l F e h1 h2⟩, c.sep⟩, c.al⟩
/-- more addresses are owned -/
theorem Con.grow (c : Con K B H σ r O) {F : List Addr} (hF : ∀ a ∈ F, B a = none ∧ H a ≠ none) : Con K B H σ r (fun a => O a ∨ a ∈ F) :=
  ⟨⟨c.sub, fun a h => h.elim (c.off a) fun h => (hF a h).1, fun a h => h.elim (c.liv a) fun h => (hF a h).2, c.len, c.frz, fun i b ct e => by
    obtain ⟨l, F, h1, h2, h3⟩ := c.own i b ct e
    exact ⟨l, F, h1, h2, fun a ha => .inl (h3 a ha)⟩, c.sep⟩, c.al⟩
theorem Con0.shrink0 (c : Con0 K B H σ r O) (hO : ∀ a, O' a → O a) (hF : ∀ (i : Nat) b ct l F, r[i]? = some (Sl.own b ct) → σ[i]? = some (some (V.ref l)) → OwnR K B H ct l F → ∀ a ∈ F, O' a) : Con0 K B H σ r O' :=
  ⟨c.sub, fun a h => c.off a (hO a h), fun a h => c.liv a (hO a h), c.len, c.frz, fun i b ct e => by
    obtain ⟨l, F, h1, h2, h3⟩ := c.own i b ct e
    exact ⟨l, F, h1, h2, hF i b ct l F e h1 h2⟩, c.sep⟩
theorem Con0.grow0 (c : Con0 K B H σ r O) {F : List Addr} (hF : ∀ a ∈ F, B a = none ∧ H a ≠ none) : Con0 K B H σ r (fun a => O a ∨ a ∈ F) :=
  ⟨c.sub, fun a h => h.elim (c.off a) fun h => (hF a h).1, fun a h => h.elim (c.liv a) fun h => (hF a h).2, c.len, c.frz, fun i b ct e => by
    obtain ⟨l, F, h1, h2, h3⟩ := c.own i b ct e
    exact ⟨l, F, h1, h2, fun a ha => .inl (h3 a ha)⟩, c.sep⟩
/-- slot i is let go: its addresses are no longer owned -/
theorem Con.release (c : Con K B H σ r O) {i : Nat} {b : Bool} {ct : Ct} {l : Addr} {F : List Addr} (e : r[i]? = some (Sl.own b ct)) (hs : σ[i]? = some (some (V.ref l))) (o : OwnR K B H ct l F) :
    Con K B H σ (r.set i .non) (fun a => O a ∧ a ∉ F) := by
  refine (c.forget i).shrink (fun _ h => h.1) fun j b' c' l' F' e' s' o' a ha => ?_
  rcases get_set e' with ⟨_, z⟩ | ⟨n, e'⟩
  · cases z
  · obtain ⟨m, G, g1, g2, g3⟩ := c.own j b' c' e'
    rw [s'] at g1; cases g1
    refine ⟨?_, fun z => c.sep i j b ct b' c' l l' F F' (Ne.symm n) e e' hs s' o o' a z ha⟩
    rw [ownR_uniq o' g2 fun _ _ => rfl] at g3
    exact g3 a ha
/-- an owned list stands still from now on -/
theorem Con.freeze (c : Con K B H σ r O) {i : Nat} {b : Bool} {ds : List D} (e : r[i]? = some (Sl.own b (.lst ds))) :
    ∃ B' O' v, σ[i]? = some (some v) ∧ Dq K B' v (.list ds) ∧ Step B H O B' H O' ∧ Con K B' H σ (r.set i (.frz b (.list ds))) O' := by
  obtain ⟨l, F, h1, o, h3⟩ := c.own i b _ e
  obtain ⟨rfl, vs, h4, h5⟩ := id o
  have c1 := c.release e h1 o
  have bl : B l = none := c.off l (h3 l (by simp))
  have c2 := c1.still h4 bl (fun h : O l ∧ l ∉ [l] => h.2 (by simp))
  have dp : Dq K (upd B l (.lst vs)) (.ref l) (.list ds) := .lst upd_same (dpa_same (same_new bl) h5)
  refine ⟨upd B l (.lst vs), fun a => O a ∧ a ∉ [l], .ref l, h1, dp, ⟨same_new bl, fun _ _ h _ => h, fun _ h => h, fun a q1 q2 q3 => ?_, fun a h => .inl h.1⟩, ?_⟩
  · rw [upd_ne (show a ≠ l from fun z => q2 (by rw [z]; exact h3 l (by simp)))]
    exact q3
  · have c3 := c2.replace (i := i) (x := .frz b (.list ds)) rfl (fun _ _ => rfl) ⟨_, h1, dp⟩ (fun _ _ e => by cases e)
    rw [List.set_set] at c3
    exact c3
/-- lists that are nobody's stand still from now on -/
theorem Con.stillAll : ∀ {as : List Addr} {rows : List (List D)} {B : Hp} (c : Con K B H σ r O) (ra : RowsAt K B H as rows) (nd : as.Nodup) (hb : ∀ a ∈ as, B a = none ∧ ¬ O a), ∃ B', Same B B' ∧ (∀ a, a ∉ as → B' a = B a) ∧ Con K B' H σ r O ∧ DqAll K B' (as.map V.ref) (rows.map .list)
  | [], _, B, c, .nil, _, _ => ⟨B, Same.refl _, fun _ _ => rfl, c, .nil⟩
  | a :: as, ds :: rows, B, c, .cons h t, nd, hb => by
    obtain ⟨vs, h1, h2⟩ := h
    simp only [List.nodup_cons] at nd
    obtain ⟨b1, n1⟩ := hb a (by simp)
    have c1 := c.still h1 b1 n1
    have sm := same_new (o := .lst vs) b1
    have t' : RowsAt K (upd B a (.lst vs)) H as rows := rowsAt_same sm t fun _ _ => rfl
    obtain ⟨B', s', k', c', d'⟩ := Con.stillAll c1 t' nd.2 fun x hx => by
      rw [upd_ne (show x ≠ a from fun e => nd.1 (e ▸ hx))]
      exact hb x (by simp [hx])
    refine ⟨B', sm.trans s', fun x hx => ?_, c', .cons (.lst (s' _ _ upd_same) (dpa_same (sm.trans s') h2)) d'⟩
    simp only [List.mem_cons, not_or] at hx
    rw [k' x hx.2, upd_ne hx.1]
/-- an owned list of lists stands still from now on -/
theorem Con.freezeLL (c : Con K B H σ r O) {i : Nat} {b : Bool} {rows : List (List D)} (e : r[i]? = some (Sl.own b (.ll rows))) :
    ∃ B' O' v, σ[i]? = some (some v) ∧ Dq K B' v (.list (rows.map .list)) ∧ Step B H O B' H O' ∧ Con K B' H σ (r.set i (.frz b (.list (rows.map .list)))) O' := by
  obtain ⟨l, F, h1, o, h3⟩ := c.own i b _ e
  obtain ⟨as, rfl, h4, nd, ra⟩ := id o
  have c1 := c.release e h1 o
  simp only [List.nodup_cons] at nd
  have off : ∀ a ∈ l :: as, B a = none := fun a ha => c.off a (h3 a ha)
  obtain ⟨B1, s1, k1, c2, d2⟩ := c1.stillAll ra nd.2 fun a ha => ⟨off a (by simp [ha]), fun z => z.2 (by simp [ha])⟩
  have bl : B1 l = none := by rw [k1 l nd.1]; exact off l (by simp)
  have c3 := c2.still h4 bl (fun h : O l ∧ l ∉ l :: as => h.2 (by simp))
  have dp : Dq K (upd B1 l (.lst (as.map V.ref))) (.ref l) (.list (rows.map .list)) := .lst upd_same (dpa_same (same_new bl) d2)
  refine ⟨upd B1 l (.lst (as.map V.ref)), fun a => O a ∧ a ∉ l :: as, .ref l, h1, dp, ⟨s1.trans (same_new bl), fun _ _ h _ => h, fun _ h => h, fun a q1 q2 q3 => ?_, fun a h => .inl h.1⟩, ?_⟩
  · have hn : a ∉ l :: as := fun z => q2 (h3 a z)
    simp only [List.mem_cons, not_or] at hn
    rw [upd_ne hn.1, k1 a hn.2]
    exact q3
  · have c4 := c3.replace (i := i) (x := .frz b (.list (rows.map .list))) rfl (fun _ _ => rfl) ⟨_, h1, dp⟩ (fun _ _ e => by cases e)
    rw [List.set_set] at c4
    exact c4
/-- slot i looks into the list of lists in slot j -/
theorem Con.setAl (c : Con K B H σ r O) {i j k : Nat} {b : Bool} {rows : List (List D)} {l a : Addr} {as : List Addr} (hi : i < σ.length) (hj : r[j]? = some (Sl.own b (.ll rows))) (hs : σ[j]? = some (some (V.ref l))) (hH : H l = some (.lst (as.map V.ref))) (ha : as[k]? = some a) (ne : i ≠ j) :
    Con K B H (σ.set i (some (.ref a))) (r.set i (.al j k)) O := by
  refine ⟨c.toCon0.replace (x := .al j k) List.length_set (fun j n => List.getElem?_set_ne (Ne.symm n)) trivial, fun i2 j2 k2 h b2 rows2 l2 as2 h1 h2 h3 => ?_⟩
  rcases get_set h1 with ⟨_, z⟩ | ⟨n1, h1⟩
  · cases z
  · rw [List.getElem?_set_ne (Ne.symm n1)] at h2
    rcases get_set h with ⟨rfl, z⟩ | ⟨n, h⟩
    · cases z
      rw [hs] at h2; cases h2
      rw [hH] at h3
      have := ref_inj (HO.lst.inj (Option.some.inj h3))
      subst this
      exact ⟨a, ha, List.getElem?_set_self hi⟩
    · rw [List.getElem?_set_ne (Ne.symm n)]
      exact c.al i2 j2 k2 h b2 rows2 l2 as2 h1 h2 h3
/-- shared data is stored in slot i -/
theorem Con.setF (c : Con K B H σ r O) {i : Nat} {b : Bool} {v : V} {d : D} (hi : i < σ.length) (h : Dq K B v d) : Con K B H (σ.set i (some v)) (r.set i (.frz b d)) O :=
  c.replace (x := .frz b d) List.length_set (fun j n => List.getElem?_set_ne (Ne.symm n)) ⟨v, List.getElem?_set_self hi, h⟩ (fun _ _ e => by cases e)
/-- a new object is stored in slot i -/
theorem Con.setN (c : Con K B H σ r O) {H0 : Hp} {i : Nat} {b : Bool} {v : V} {ct : Ct} (hi : i < σ.length) (h : RvR K H0 B H O (.new ct) v) (hal : ∀ rows, ct = .ll rows → noAl r i = true) :
    ∃ F : List Addr, (∀ a ∈ F, H0 a = none ∧ B a = none ∧ ¬ O a) ∧ Con K B H (σ.set i (some v)) (r.set i (.own b ct)) (fun a => O a ∨ a ∈ F) := by
  obtain ⟨l, F, rfl, o, hF⟩ := h
  refine ⟨F, hF, ?_⟩
  have c1 := c.grow (F := F) fun a ha => ⟨(hF a ha).2.1, ownR_some o a ha⟩
  refine c1.replace (x := .own b ct) List.length_set (fun j n => List.getElem?_set_ne (Ne.symm n)) ⟨l, F, List.getElem?_set_self hi, o, fun a ha => .inr ha, fun j b' c' l' F' n e' s' o' a ha hb => ?_⟩ (fun b2 rows e => by cases e; exact hal rows rfl)
  obtain ⟨m, G, g1, g2, g3⟩ := c.own j b' c' e'
  rw [s'] at g1; cases g1
  rw [ownR_uniq o' g2 fun _ _ => rfl] at g3
  exact (hF a ha).2.2 (g3 a hb)
/-- an owned object is changed in place -/
theorem Con.change (c : Con K B H σ r O) {i : Nat} {b : Bool} {ct ct' : Ct} {l : Addr} {F F' : List Addr} (e : r[i]? = some (Sl.own b ct)) (hs : σ[i]? = some (some (V.ref l))) (o : OwnR K B H ct l F)
    (k : ∀ a, a ∉ F → H' a = H a) (o' : OwnR K B H' ct' l F') (hF : ∀ a ∈ F', a ∈ F) (live : ∀ a, H a ≠ none → H' a ≠ none)
    (hal : ∀ rows, ct' = .ll rows → noAl r i = true ∨ (H' l = H l ∧ ∃ rows0, ct = .ll rows0)) : Con K B H' σ (r.set i (.own b ct')) O ∧ Step B H O B H' O := by
  obtain ⟨l0, F0, g1, g2, g3⟩ := c.own i b ct e
  rw [hs] at g1; cases g1
  have hFO : ∀ a ∈ F, O a := fun a ha => by
    rw [ownR_uniq g2 o fun _ _ => rfl] at ha
    exact g3 a ha
  have c1 := (c.release e hs o).toCon0
  have c2 := c1.mono (H' := H') (Same.refl _) (fun a x h => by
    by_cases q : a ∈ F
    · rw [c.off a (hFO a q)] at h; cases h
    · rw [k a q]; exact c.sub a x h) (fun a h => k a h.2) c1.off
  have c3 := c2.grow0 (F := F) fun a ha => ⟨c.off a (hFO a ha), live a (c.liv a (hFO a ha))⟩
  have c4 := c3.replace (i := i) (x := .own b ct') rfl (fun _ _ => rfl) ⟨l, F', hs, o', fun a ha => .inr (hF a ha), fun j b2 c2' l2 F2 n e2 s2 o2 a ha hb => by
    rcases get_set e2 with ⟨_, z⟩ | ⟨n, e2⟩
    · cases z
    · obtain ⟨m, G, q1, q2, q3⟩ := c.own j b2 c2' e2
      rw [s2] at q1; cases q1
      have hz : F2 = G := ownR_uniq q2 o2 fun a ha => k a fun hz => c.sep i j b ct b2 c2' l l2 F G (Ne.symm n) e e2 hs s2 o q2 a hz ha
      subst hz
      exact c.sep i j b ct b2 c2' l l2 F F2 (Ne.symm n) e e2 hs s2 o q2 a (hF a ha) hb⟩
  rw [List.set_set] at c4
  refine ⟨⟨c4.shrink0 (fun a h => ?_) fun j b2 c2' l2 F2 e2 s2 o2 a ha => ?_, fun i2 j k2 h b2 rows l2 as h1 h2 h3 => ?_⟩, ⟨Same.refl _, fun a x h n => ?_, live, fun _ _ _ h => h, fun _ h => .inl h⟩⟩
  · by_cases q : a ∈ F
    · exact .inr q
    · exact .inl ⟨h, q⟩
  · obtain ⟨m, G, q1, q2, q3⟩ := c4.own j b2 c2' e2
    rw [s2] at q1; cases q1
    rw [ownR_uniq o2 q2 fun _ _ => rfl] at q3
    exact (q3 a ha).elim (fun h => h.1) fun h => hFO a h
  · rcases get_set h with ⟨rfl, z⟩ | ⟨n, g⟩
    · cases z
    · rcases get_set h1 with ⟨rfl, z⟩ | ⟨n1, g1⟩
      · cases z
        rw [hs] at h2; cases h2
        rcases hal rows rfl with q | ⟨q, rows0, rfl⟩
        · exact absurd g (noAl_of q)
        · rw [q] at h3
          exact c.al i2 j k2 g b rows0 _ as e hs h3
      · obtain ⟨m, G, q1, q2, q3⟩ := c.own j b2 _ g1
        rw [h2] at q1; cases q1
        rw [k _ (fun hz => c.sep i j b ct b2 _ l _ F G (Ne.symm n1) e g1 hs h2 o q2 _ hz (ownR_mem q2))] at h3
        exact c.al i2 j k2 g b2 rows _ as g1 h2 h3
  · rw [k a fun z => n (hFO a z)]; exact h
end

abbrev Cx.g (X : Cx) : Ct2 := ⟨X.K, X.mg⟩
def DE (X : Cx) (W : WX) (e : Expr) (m : M RV) : Prop := PE X e (tG (Cx.g X) W m (rV (Cx.g X)))
def DO (X : Cx) (W : WX) (e : Expr) (m : M AV) : Prop := PE X e (tG (Cx.g X) W m (rA (Cx.g X)))
def DA (X : Cx) (W : WX) (es : List Expr) (m : M (List AV)) : Prop := PA X es (tG (Cx.g X) W m (rL (Cx.g X)))
def DB (X : Cx) (W : WX) (e : Expr) (m : M Bool) : Prop := PT X e (tG (Cx.g X) W m rB)
theorem pe_weak {X : Cx} {e : Expr} {t t' : TE} (h : PE X e t) (w : ∀ σ H Q, t' σ H Q → t σ H Q) : PE X e t' := ⟨fun pins s σ H Q I q => h.run pins s σ H Q I (w σ H Q q)⟩
theorem pt_weak {X : Cx} {e : Expr} {t t' : TT} (h : PT X e t) (w : ∀ σ H Q, t' σ H Q → t σ H Q) : PT X e t' := ⟨fun pins s σ H Q I q => h.run pins s σ H Q I (w σ H Q q)⟩
theorem pa_weak {X : Cx} {e : List Expr} {t t' : TA} (h : PA X e t) (w : ∀ σ H Q, t' σ H Q → t σ H Q) : PA X e t' := ⟨fun pos pins s σ H Q I q => h.run pos pins s σ H Q I (w σ H Q q)⟩
theorem ps_weak {X : Cx} {e : Stmt} {t t' : TS} (h : PS X e t) (w : ∀ D σ H, t' D σ H → t D σ H) : PS X e t' := ⟨fun pins s σ H D I q => h.run pins s σ H D I (w D σ H q)⟩

theorem bind_assoc {α β γ : Type} (m : M α) (f : α → M β) (k : β → M γ) : (m.bind f).bind k = m.bind fun a => (f a).bind k := by
  funext r
  unfold M.bind
  cases m r with
  | none => rfl
  | some z => obtain ⟨o, r'⟩ := z; cases o <;> rfl
theorem ret_bind {α β : Type} (a : α) (f : α → M β) : (M.ret a).bind f = f a := rfl
theorem mOp_two (g : List Rs → Option RV) (a b : M AV) : mOp g [a, b] = a.bind fun x => b.bind fun y => mFin g [x, y] := by
  unfold mOp oL oL oL
  simp only [bind_assoc, ret_bind]

section
variable {X : Cx} {W : WX}
theorem de_const {e : Expr} {v : V} {d : D} (h : PE X e (tC v)) (hd : ∀ B, Dq X.K B v d) : DE X W e (mC d) := pe_weak h fun σ H Q ⟨B, r, O, h⟩ => h.ret (hd B)
theorem de_int {i j pos} : DE X W (.Constant (.int i) j pos) (mC (.int i)) := de_const pe_int fun _ => .int i
theorem de_bl {i j pos} : DE X W (.Constant (.bool i) j pos) (mC (.bool i)) := de_const pe_bl fun _ => .bl i
theorem de_non {j pos} : DE X W (.Constant .none j pos) (mC .none) := de_const pe_non fun _ => .non
theorem de_str {x j pos} : DE X W (.Constant (.str x) j pos) (mC (.str x)) := de_const pe_str fun _ => .str x
theorem bor_set {r : Ro} {σ : L2.St} {i : Nat} {x y : Sl} (h : r[i]? = some x) (hp : pinned x = true → pinned y = true) : Bor r σ (r.set i y) σ := fun j z hz pz => by
  refine ⟨?_, rfl⟩
  by_cases e : j = i
  · subst e
    rw [h] at hz; cases hz
    obtain ⟨hl, _⟩ := List.getElem?_eq_some_iff.mp h
    exact ⟨y, List.getElem?_set_self hl, hp pz⟩
  · exact ⟨z, by rw [List.getElem?_set_ne (Ne.symm e)]; exact hz, pz⟩
/-- the slot i as a value -/
theorem rd_var {i : Nat} {σ : L2.St} {H : Hp} {Q : VK} : tG (Cx.g X) W (mRd i) (rV (Cx.g X)) σ H Q → tVar i σ H Q := fun ⟨B, r, O, c, o, r', e, p⟩ => by
  unfold mRd at e
  split at e
  · rename_i b d q
    cases e
    obtain ⟨v, h1, h2⟩ := c.frz i b d q
    exact ⟨v, h1, p B H O v .refl c .refl h2⟩
  · rename_i b ds q
    cases e
    obtain ⟨B', O', v, h1, h2, s, c'⟩ := c.freeze q
    exact ⟨v, h1, p B' H O' v s c' (bor_set q fun z => z) h2⟩
  · rename_i b rows q
    cases e
    obtain ⟨B', O', v, h1, h2, s, c'⟩ := c.freezeLL q
    exact ⟨v, h1, p B' H O' v s c' (bor_set q fun z => z) h2⟩
  · cases e
theorem de_var {e : Expr} {i : Nat} (h : PE X e (tVar i)) : DE X W e (mRd i) := pe_weak h fun σ H Q => rd_var
/-- the slot i as an operand -/
theorem do_var {e : Expr} {i : Nat} (h : PE X e (tVar i)) : DO X W e (oS i) := pe_weak h fun σ H Q ⟨B, r, O, c, o, r', e, p⟩ => by
  unfold oS at e
  split at e
  · rename_i x q
    cases e
    have : ∃ v, σ[i]? = some (some v) := by
      simp only [look2] at q
      split at q
      · rename_i b d z
        obtain ⟨v, h1, _⟩ := c.frz i b d z
        exact ⟨v, h1⟩
      · rename_i b ct z
        obtain ⟨l, F, h1, _⟩ := c.own i b ct z
        exact ⟨_, h1⟩
      · rename_i j k z
        split at q
        · rename_i b rows z2
          cases z3 : rows[k]? with
          | none => rw [z3] at q; cases q
          | some ds =>
            obtain ⟨l, F, h1, ⟨as, rfl, h2, nd, ra⟩, h3⟩ := c.own j b _ z2
            obtain ⟨a, g1, g2⟩ := c.al i j k z b rows l as z2 h1 h2
            exact ⟨_, g2⟩
        · cases q
      · cases q
    obtain ⟨v, h1⟩ := this
    exact ⟨v, h1, p B H O v .refl c .refl h1⟩
  · cases e
/-- an expression as an operand -/
theorem do_of {e : Expr} {m : M RV} (h : DE X W e m) : DO X W e (oE m) := pe_weak h fun σ H Q ⟨B, r, O, c, o, r', e, p⟩ => by
  refine ⟨B, r, O, c, ?_⟩
  unfold oE M.bind at e
  cases q : m r with
  | none => rw [q] at e; cases e
  | some z =>
    obtain ⟨o1, r1⟩ := z
    rw [q] at e
    refine ⟨o1, r1, rfl, ?_⟩
    cases o1 with
    | exc x => cases e; exact p
    | ok rv =>
      simp only [M.of] at e
      cases qd : rv.data with
      | none => rw [qd] at e; cases e
      | some d =>
        rw [qd] at e
        cases e
        intro B1 H1 O1 v s1 c1 b1 x1
        obtain ⟨B2, s2, c2, dp, _⟩ := c1.frozen s1 x1 qd
        exact p B2 H1 O1 v s2 c2 b1 dp
theorem da_nil : DA X W [] (oL []) := pa_weak pa_nil fun σ H Q ⟨B, r, O, h⟩ => h.ret .nil
theorem da_cons {e : Expr} {es : List Expr} {m : M AV} {ms : List (M AV)} (h : DO X W e m) (t : DA X W es (oL ms)) (hs : starEach (e :: es) X.env = (false, eval e X.env) :: starEach es X.env := by rfl) : DA X W (e :: es) (oL (m :: ms)) := pa_weak (pa_cons h t hs) fun σ H Q ⟨B, r, O, h⟩ => by
  refine tG.of ((h.bind later_rL (R := rA (Cx.g X))).mono ?_)
  rintro x H1 ⟨a, B1, r1, O1, s1, x1, h1⟩
  refine tG.of ((h1.bind later_rL (R := rL (Cx.g X))).mono ?_)
  rintro xs H2 ⟨as, B2, r2, O2, s2, x2, h2⟩
  exact h2.ret (Paired.cons (x1.same s2.sB) x2)
end
end DL
end

section
namespace DL
open PySem
/-- at most so many items -/
def lineD : Nat := 16777216
/-- a place in a row, from the front or (below nought) from behind -/
def ixD (n : Nat) (i : Int) : Option Nat := if 0 ≤ i then (if i < n then some i.toNat else none) else if -(n : Int) ≤ i then some (i + n).toNat else none
def I2 (f : Int → Int → Option D) : List Rs → Option RV
  | [.fz (.int i), .fz (.int j)] => (f i j).map .val
  | _ => none
def gSub : List Rs → Option RV := I2 fun i j => some (.int (i - j))
def gMod : List Rs → Option RV := I2 fun i j => if 0 < j then some (.int (i % j)) else none
def gDiv : List Rs → Option RV := I2 fun i j => if 0 < j ∧ j.natAbs.log2 < 9000 then some (.int (i / j)) else none
def gPow : List Rs → Option RV := I2 fun i j => if 0 ≤ j ∧ j ≤ 1000000 ∧ i.natAbs < 2 ^ 64 then some (.int (i ^ j.toNat)) else none
def gLt : List Rs → Option RV := I2 fun i j => some (.bool (decide (i < j)))
def gLe : List Rs → Option RV := I2 fun i j => some (.bool (decide (i ≤ j)))
def gGt : List Rs → Option RV := I2 fun i j => some (.bool (decide (j < i)))
def gGe : List Rs → Option RV := I2 fun i j => some (.bool (decide (j ≤ i)))
/-- + -/
def addD : D → D → Option RV
  | .int i, .int j => some (.val (.int (i + j)))
  | .tuple xs, .tuple ys => if xs.length + ys.length ≤ lineD then some (.val (.tuple (xs ++ ys))) else none
  | .list xs, .list ys => if xs.length + ys.length ≤ lineD then some (.new (.lst (xs ++ ys))) else none
  | _, _ => none
def gAdd : List Rs → Option RV
  | [a, b] => match a.data, b.data with
    | some x, some y => addD x y
    | _, _ => none
  | _ => none
/-- * -/
def mulD : D → D → Option RV
  | .int i, .int j => if i.natAbs.log2 + j.natAbs.log2 < 1000000 then some (.val (.int (i * j))) else none
  | .list xs, .int k => if -(2 ^ 63) ≤ k ∧ k < 2 ^ 63 ∧ xs.length * k.toNat ≤ lineD then some (.new (.lst (List.replicate k.toNat xs).flatten)) else none
  | _, _ => none
def gMul : List Rs → Option RV
  | [a, b] => match a.data, b.data with
    | some x, some y => mulD x y
    | _, _ => none
  | _ => none
/-- such data can be compared -/
def okD (d : D) : Bool := d.canLay0 && decide (d.depth ≤ 64)
def gEq : List Rs → Option RV
  | [a, b] => match a.data, b.data with
    | some x, some y => if okD x && okD y then some (.val (.bool (PyData.eqv x y))) else none
    | _, _ => none
  | _ => none
def gNe : List Rs → Option RV
  | [a, b] => match a.data, b.data with
    | some x, some y => if okD x && okD y then some (.val (.bool (!PyData.eqv x y))) else none
    | _, _ => none
  | _ => none
/-- o[i] of lists and tuples -/
def getD : D → D → Option D
  | .list xs, .int i => (ixD xs.length i).bind fun j => xs[j]?
  | .tuple xs, .int i => (ixD xs.length i).bind fun j => xs[j]?
  | _, _ => none
def kyOf : D → Option Ky
  | .int i => some (.inl i)
  | .str x => some (.inr x)
  | _ => none
def gIx : List Rs → Option RV
  | [a, b] => match a.data, b.data with
    | some x, some y => (getD x y).map .val
    | _, _ => none
  | _ => none
def gAbs : List Rs → Option RV
  | [.fz (.int i)] => some (.val (.int (if i < 0 then -i else i)))
  | _ => none
def gMin2 : List Rs → Option RV := I2 fun i j => some (.int (if j < i then j else i))
def rowOf : D → Option (List D)
  | .list xs => some xs
  | .tuple xs => some xs
  | _ => none
def gList : List Rs → Option RV
  | [a] => (a.data.bind rowOf).map fun xs => .new (.lst xs)
  | _ => none
def gTuple : List Rs → Option RV
  | [a] => (a.data.bind rowOf).map fun xs => .val (.tuple xs)
  | _ => none
def dataAll : List Rs → Option (List D)
  | [] => some []
  | .fz d :: r => (dataAll r).map (d :: ·)
  | .ow _ :: _ => none
/-- (a, b, ..): operands that stand still -/
def gTup (as : List Rs) : Option RV := (dataAll as).bind fun ds => if ds.length ≤ lineD then some (.val (.tuple ds)) else none
def gLst (as : List Rs) : Option RV := (dataAll as).bind fun ds => if ds.length ≤ lineD then some (.new (.lst ds)) else none
def boolV : RV → Option Bool
  | .val (.bool b) => some b
  | _ => none
/-- a test by a value that is True or False -/
def mTst (m : M RV) : M Bool := m.bind fun v => M.of (boolV v)
def mNot (m : M Bool) : M Bool := m.bind fun b => M.ret (!b)
def mAnd (a b : M Bool) : M Bool := a.bind fun x => if x then b else M.ret false
def mOr (a b : M Bool) : M Bool := a.bind fun x => if x then M.ret true else b
/-- a test by truth -/
def mFz (m : M RV) : M D := m.bind fun v => M.of v.data
/-- the values of and, or, not: all but the last are True or False -/
def mAndV (a b : M RV) : M RV := a.bind fun v => match v with
  | .val (.bool true) => b
  | .val (.bool false) => M.ret (.val (.bool false))
  | _ => M.of none
def mNotV (a : M RV) : M RV := a.bind fun v => match v with
  | .val (.bool b) => M.ret (.val (.bool !b))
  | _ => M.of none
end DL
end

section
namespace DL
open PySem PySem.Spec PyProof.Rows L2
theorem line_eq : lineD = sizeLine := by rw [sizeLine_eq]; rfl

section
variable {X : Cx} {W : WX}
def OpD (X : Cx) (f : Value → Value → Sem Value) (g : List Rs → Option RV) : Prop :=
  OpR X f fun x y H Q => ∃ B a b z, Same B H ∧ RsR X.K B H a x ∧ RsR X.K B H b y ∧ g [a, b] = some z ∧ ∀ H' v, Alc X.K B H H' z v → Q v H'
def IxOD (X : Cx) (g : List Rs → Option RV) : Prop :=
  IxR X fun x y H Q => ∃ B a b z, Same B H ∧ RsR X.K B H a x ∧ RsR X.K B H b y ∧ g [a, b] = some z ∧ ∀ H' v, Alc X.K B H H' z v → Q v H'
def CallD (X : Cx) (f : Value) (g : List Rs → Option RV) : Prop :=
  CallR X f fun vs H Q => ∃ B as z, Same B H ∧ Paired (RsR X.K B H) as vs ∧ g as = some z ∧ ∀ H' v, Alc X.K B H H' z v → Q v H'
theorem At.fin {g : List Rs → Option RV} {as : List AV} {B : Hp} {r : Ro} {O : Addr → Prop} {σ : L2.St} {H : Hp} {vs : List V} {Q : VK} (h : At (Cx.g X) W (mFin g as) (rV (Cx.g X)) B r O σ H Q) (x : Paired (AvR X.K B σ) as vs) :
    ∃ xs z, Same B H ∧ Paired (RsR X.K B H) xs vs ∧ g xs = some z ∧ ∀ H' v, Alc X.K B H H' z v → Q v H' := by
  obtain ⟨c, o, r', e, p⟩ := h
  unfold mFin at e
  split at e
  · cases e
  · rename_i xs q
    cases qg : g xs with
    | none => rw [qg] at e; cases e
    | some z =>
      rw [qg] at e
      cases e
      refine ⟨xs, z, c.sub, c.looks2_ q x, qg, fun H' v a => ?_⟩
      obtain ⟨B', s, c', rv⟩ := c.alc a
      exact p B' H' O v s c' .refl rv
theorem At.ofBool {v : RV} {B : Hp} {r : Ro} {O : Addr → Prop} {σ : L2.St} {H H0 : Hp} {y : V} {Q : Bool → Hp → Prop} (h : At (Cx.g X) W (M.of (boolV v)) rB B r O σ H Q) (x : rV (Cx.g X) H0 B H O σ v y) : ∃ k, y = .bl k ∧ Q k H := by
  obtain ⟨c, o, r', e, p⟩ := h
  cases v with
  | val d =>
    cases d with
    | bool b =>
      cases e
      exact ⟨b, dp_bl x, p B H O b .refl c .refl rfl⟩
    | _ => cases e
  | new c => cases e
theorem two_ops {e1 e2 : Expr} {oa ob : M AV} {g : List Rs → Option RV} {σ : L2.St} {H : Hp} {Q : VK} (h : tG (Cx.g X) W (mOp g [oa, ob]) (rV (Cx.g X)) σ H Q) :
    tOp (fun x y H Q => ∃ B a b z, Same B H ∧ RsR X.K B H a x ∧ RsR X.K B H b y ∧ g [a, b] = some z ∧ ∀ H' v, Alc X.K B H H' z v → Q v H') (tG (Cx.g X) W oa (rA (Cx.g X))) (tG (Cx.g X) W ob (rA (Cx.g X))) σ H Q := by
  obtain ⟨B, r, O, h⟩ := h
  rw [mOp_two] at h
  refine tG.of ((h.bind later_rV (R := rA (Cx.g X))).mono ?_)
  rintro x H1 ⟨a, B1, r1, O1, s1, x1, h1⟩
  refine tG.of ((h1.bind later_rV (R := rA (Cx.g X))).mono ?_)
  rintro y H2 ⟨b, B2, r2, O2, s2, x2, h2⟩
  obtain ⟨xs, z, sb, p, hg, q⟩ := h2.fin (.cons (x1.same s2.sB) (.cons x2 .nil))
  cases p with
  | cons p1 p => cases p with
    | cons p2 p =>
      cases p
      exact ⟨B2, _, _, z, sb, p1, p2, hg, q⟩
theorem de_bin {a b : Expr} {op : Operator} {pos : Pos} {g : List Rs → Option RV} {oa ob : M AV} (ho : OpD X (binaryOp op) g) (ha : DO X W a oa) (hb : DO X W b ob) : DE X W (.BinOp a op b pos) (mOp g [oa, ob]) :=
  pe_weak (pe_op ho ha hb) fun σ H Q h => two_ops (e1 := a) (e2 := b) h
theorem de_cmp {a b : Expr} {op : CmpOp} {pos : Pos} {g : List Rs → Option RV} {oa ob : M AV} (ho : OpD X (compareOp op) g) (ha : DO X W a oa) (hb : DO X W b ob) (hm : behindInMarks op b = false) : DE X W (.Compare a [op] [b] pos) (mOp g [oa, ob]) :=
  pe_weak (pe_cmpR ho ha hb hm) fun σ H Q h => two_ops (e1 := a) (e2 := b) h
theorem de_ix {a b : Expr} {pos : Pos} {g : List Rs → Option RV} {oa ob : M AV} (ho : IxOD X g) (ha : DO X W a oa) (hb : DO X W b ob) (hs : PlainIx b) : DE X W (.Subscript a b pos) (mOp g [oa, ob]) :=
  pe_weak (pe_ix ho ha hb hs) fun σ H Q h => two_ops (e1 := a) (e2 := b) h
/-- a test from a comparison -/
theorem db_cmp {a b : Expr} {op : CmpOp} {pos : Pos} {g : List Rs → Option RV} {oa ob : M AV} (ho : OpD X (compareOp op) g) (ha : DO X W a oa) (hb : DO X W b ob) (hm : behindInMarks op b = false) : DB X W (.Compare a [op] [b] pos) (mTst (mOp g [oa, ob])) :=
  pt_weak (pt_cmpR ho ha hb hm) fun σ H Q ⟨B, r, O, h⟩ => by
    refine two_ops (e1 := a) (e2 := b) (tG.of ((h.bind later_rB (R := rV (Cx.g X))).mono ?_))
    rintro y H1 ⟨v, B1, r1, O1, s1, x1, h1⟩
    exact h1.ofBool x1
end
end DL
end

section
namespace DL
open PySem PySem.Spec PyProof.Rows L2

section
variable {K : PySem.W.Frag} {B H : Hp}
/-- a row that is looked at -/
theorem rs_list {a : Rs} {ds : List D} {v : V} (sb : Same B H) (h : RsR K B H a v) (e : a.data = some (.list ds)) : ∃ l vs, v = .ref l ∧ H l = some (.lst vs) ∧ DqAll K B vs ds := by
  cases a with
  | fz d =>
    cases e
    obtain ⟨l, vs, rfl, s, d⟩ := dp_list h
    exact ⟨l, vs, rfl, sb _ _ s, d⟩
  | ow c =>
    cases c with
    | lst es =>
      cases e
      obtain ⟨l, F, rfl, _, vs, e1, d⟩ := h
      exact ⟨l, vs, rfl, e1, d⟩
    | dK _ => cases e
    | dT _ => cases e
    | ll _ => cases e
    | dl _ => cases e
    | tab _ _ => cases e
theorem rs_tuple {a : Rs} {ds : List D} {v : V} (sb : Same B H) (h : RsR K B H a v) (e : a.data = some (.tuple ds)) : ∃ l vs, v = .ref l ∧ TupAt H l vs ∧ DqAll K B vs ds := by
  cases a with
  | fz d =>
    cases e
    obtain ⟨l, vs, rfl, s, d⟩ := dp_tuple h
    exact ⟨l, vs, rfl, tup_same sb s, d⟩
  | ow c => cases c <;> cases e
theorem rs_dp {a : Rs} {d : D} {v : V} (sb : Same B H) (h : RsR K B H a v) (e : a.data = some d) : Dq K H v d := by
  cases a with
  | fz d' => cases e; exact dp_same sb h
  | ow c =>
    cases c with
    | lst es =>
      cases e
      obtain ⟨l, F, rfl, _, vs, e1, d⟩ := h
      exact .lst e1 (dpa_same sb d)
    | dK _ => cases e
    | dT _ => cases e
    | ll _ => cases e
    | dl _ => cases e
    | tab _ _ => cases e
theorem rs_int {a : Rs} {i : Int} {v : V} (h : RsR K B H a v) (e : a.data = some (.int i)) : v = .int i := by
  cases a with
  | fz d => cases e; exact dp_int h
  | ow c => cases c <;> cases e
theorem rs_str {a : Rs} {i : Str} {v : V} (h : RsR K B H a v) (e : a.data = some (.str i)) : v = .str i := by
  cases a with
  | fz d => cases e; exact dp_str h
  | ow c => cases c <;> cases e
theorem alc_val {v : V} {d : D} {Q : VK} (q : ∀ H' v, Alc K B H H' (.val d) v → Q v H') (h : Dq K B v d) : Q v H := q H v (.inl ⟨rfl, h⟩)
theorem alc_tup {vs : List V} {ds : List D} {Q : VK} (q : ∀ H' v, Alc K B H H' (.val (.tuple ds)) v → Q v H') (h : DqAll K B vs ds) (p : Addr) (o : Obj) (hp : H p = none) (ht : TP o) : Q (.ref p) (upd H p (.frz o (.tup vs))) :=
  q _ _ (.inr ⟨p, vs, ds, o, hp, ht, rfl, rfl, h, rfl⟩)
theorem alc_lst {vs : List V} {ds : List D} {Q : VK} (q : ∀ H' v, Alc K B H H' (.new (.lst ds)) v → Q v H') (h : DqAll K B vs ds) (p : Addr) (hp : H p = none) : Q (.ref p) (upd H p (.lst vs)) :=
  q _ _ ⟨p, vs, hp, rfl, h, rfl⟩
end

section
variable {X : Cx} {W : WX}
theorem i2_of {f : Int → Int → Option D} {a b : Rs} {z : RV} (h : I2 f [a, b] = some z) : ∃ i j d, a = .fz (.int i) ∧ b = .fz (.int j) ∧ f i j = some d ∧ z = .val d := by
  unfold I2 at h
  split at h
  · rename_i i j e
    cases e
    cases q : f i j with
    | none => rw [q] at h; cases h
    | some d => rw [q] at h; cases h; exact ⟨i, j, d, rfl, rfl, q, rfl⟩
  · cases h
/-- from a rule on ints -/
theorem opD_int {f : Value → Value → Sem Value} {C : Int → Int → Prop} {g : Int → Int → V} {k : Int → Int → Option D} (ho : OpR X f (rI C g)) (hk : ∀ i j d, k i j = some d → C i j ∧ ∀ B, Dq X.K B (g i j) d) : OpD X f (I2 k) := by
  intro pins s σ H x y v u Q I rx ry ⟨B, a, b, z, sb, r1, r2, hg, q⟩
  obtain ⟨i, j, d, rfl, rfl, e, rfl⟩ := i2_of hg
  obtain ⟨hc, hd⟩ := hk i j d e
  exact ho pins s σ H x y v u Q I rx ry ⟨i, j, dp_int r1, dp_int r2, hc, alc_val q (hd B)⟩
theorem opD_int0 {f : Value → Value → Sem Value} {g : Int → Int → V} {k : Int → Int → Option D} (ho : OpR X f (rI0 g)) (hk : ∀ i j d, k i j = some d → ∀ B, Dq X.K B (g i j) d) : OpD X f (I2 k) := by
  intro pins s σ H x y v u Q I rx ry ⟨B, a, b, z, sb, r1, r2, hg, q⟩
  obtain ⟨i, j, d, rfl, rfl, e, rfl⟩ := i2_of hg
  exact ho pins s σ H x y v u Q I rx ry ⟨i, j, dp_int r1, dp_int r2, alc_val q (hk i j d e B)⟩
theorem od_sub : OpD X (binaryOp .Sub) gSub := opD_int0 op_sub fun i j d e B => by cases e; exact .int _
theorem od_mod : OpD X (binaryOp .Mod) gMod := opD_int op_mod fun i j d e => by
  split at e
  · rename_i h; cases e; exact ⟨h, fun B => .int _⟩
  · cases e
theorem od_div : OpD X (binaryOp .FloorDiv) gDiv := opD_int op_fdivW fun i j d e => by
  split at e
  · rename_i h; cases e; exact ⟨h, fun B => .int _⟩
  · cases e
theorem od_pow : OpD X (binaryOp .Pow) gPow := opD_int op_pow fun i j d e => by
  split at e
  · rename_i h; cases e; exact ⟨h, fun B => .int _⟩
  · cases e
theorem od_lt : OpD X (compareOp .Lt) gLt := opD_int0 op_lt fun i j d e B => by cases e; exact .bl _
theorem od_le : OpD X (compareOp .LtE) gLe := opD_int0 op_le fun i j d e B => by cases e; exact .bl _
theorem od_gt : OpD X (compareOp .Gt) gGt := opD_int0 op_gt fun i j d e B => by cases e; exact .bl _
theorem od_ge : OpD X (compareOp .GtE) gGe := opD_int0 op_ge fun i j d e B => by cases e; exact .bl _
theorem g2_of {f : D → D → Option RV} {a b : Rs} {z : RV} (h : (match a.data, b.data with | some x, some y => f x y | _, _ => none) = some z) : ∃ x y, a.data = some x ∧ b.data = some y ∧ f x y = some z := by
  split at h
  · rename_i x y e1 e2; exact ⟨x, y, e1, e2, h⟩
  · cases h
theorem od_add : OpD X (binaryOp .Add) gAdd := by
  intro pins s σ H x y v u Q I rx ry ⟨B, a, b, z, sb, r1, r2, hg, q⟩
  obtain ⟨d, e, h1, h2, hf⟩ := g2_of hg
  unfold addD at hf
  split at hf
  · cases hf
    exact op_add pins s σ H x y v u Q I rx ry ⟨_, _, rs_int r1 h1, rs_int r2 h2, alc_val q (.int _)⟩
  · rename_i xs ys
    split at hf
    · rename_i hl
      cases hf
      obtain ⟨l, vs, rfl, s1, d1⟩ := rs_tuple sb r1 h1
      obtain ⟨m, ws, rfl, s2, d2⟩ := rs_tuple sb r2 h2
      refine fop_cat pins s σ H _ _ v u Q I rx ry ⟨l, m, vs, ws, rfl, rfl, s1.sq, s2.sq, by rw [d1.length, d2.length, ← line_eq]; exact hl, fun e => ?_, fun _ e => ?_, fun _ _ => alc_tup q (d1.append d2)⟩
      · subst e
        cases d1
        cases b with
        | fz d' => cases h2; exact alc_val q r2
        | ow c => cases c <;> cases h2
      · subst e
        cases d2
        rw [List.append_nil] at q
        cases a with
        | fz d' => cases h1; exact alc_val q r1
        | ow c => cases c <;> cases h1
    · cases hf
  · rename_i xs ys
    split at hf
    · rename_i hl
      cases hf
      obtain ⟨l, vs, rfl, s1, d1⟩ := rs_list sb r1 h1
      obtain ⟨m, ws, rfl, s2, d2⟩ := rs_list sb r2 h2
      exact op_cat pins s σ H _ _ v u Q I rx ry ⟨l, m, vs, ws, rfl, rfl, s1, s2, by rw [d1.length, d2.length, ← line_eq]; exact hl, alc_lst q (d1.append d2)⟩
    · cases hf
  · cases hf
theorem DqAll.rep {K : PySem.W.Frag} {H : Hp} {vs : List V} {ds : List D} (h : DqAll K H vs ds) : ∀ k : Nat, DqAll K H (List.replicate k vs).flatten (List.replicate k ds).flatten
  | 0 => .nil
  | k + 1 => by
    rw [List.replicate_succ, List.replicate_succ, List.flatten_cons, List.flatten_cons]
    exact h.append (DqAll.rep h k)
theorem od_mul : OpD X (binaryOp .Mult) gMul := by
  intro pins s σ H x y v u Q I rx ry ⟨B, a, b, z, sb, r1, r2, hg, q⟩
  obtain ⟨d, e, h1, h2, hf⟩ := g2_of hg
  unfold mulD at hf
  split at hf
  · split at hf
    · rename_i hc
      cases hf
      exact op_mulW pins s σ H x y v u Q I rx ry ⟨_, _, rs_int r1 h1, rs_int r2 h2, hc, alc_val q (.int _)⟩
    · cases hf
  · rename_i xs k
    split at hf
    · rename_i hc
      cases hf
      obtain ⟨l, vs, rfl, s1, d1⟩ := rs_list sb r1 h1
      exact op_rep pins s σ H _ y v u Q I rx ry ⟨l, k, vs, rfl, rs_int r2 h2, s1, hc.1, hc.2.1, by rw [d1.length, ← line_eq]; exact hc.2.2, alc_lst q (d1.rep k.toNat)⟩
    · cases hf
  · cases hf
theorem okD_shaped {d : D} (h : okD d = true) : SeqAt.shaped d = true := h
theorem okD_lay {d : D} (h : okD d = true) : d.canLay0 = true := (Bool.and_eq_true_iff.mp h).1
theorem od_eq (hu : X.A.units + 64 < cLine) : OpD X (compareOp .Eq) gEq := by
  intro pins s σ H x y v u Q I rx ry ⟨B, a, b, z, sb, r1, r2, hg, q⟩
  obtain ⟨d, e, h1, h2, hf⟩ := g2_of hg
  split at hf
  · rename_i hc
    cases hf
    obtain ⟨k1, k2⟩ := Bool.and_eq_true_iff.mp hc
    exact op_eqD hu pins s σ H x y v u Q I rx ry ⟨d, e, dq_dp (rs_dp sb r1 h1) (okD_lay k1), dq_dp (rs_dp sb r2 h2) (okD_lay k2), okD_shaped k1, okD_shaped k2, alc_val q (.bl _)⟩
  · cases hf
theorem od_ne (hu : X.A.units + 64 < cLine) : OpD X (compareOp .NotEq) gNe := by
  intro pins s σ H x y v u Q I rx ry ⟨B, a, b, z, sb, r1, r2, hg, q⟩
  obtain ⟨d, e, h1, h2, hf⟩ := g2_of hg
  split at hf
  · rename_i hc
    cases hf
    obtain ⟨k1, k2⟩ := Bool.and_eq_true_iff.mp hc
    exact op_neD hu pins s σ H x y v u Q I rx ry ⟨d, e, dq_dp (rs_dp sb r1 h1) (okD_lay k1), dq_dp (rs_dp sb r2 h2) (okD_lay k2), okD_shaped k1, okD_shaped k2, alc_val q (.bl _)⟩
  · cases hf
theorem cd_abs : CallD X (.builtin "abs") gAbs := by
  intro pins s σ H vs us Q I r ⟨B, as, z, sb, p, hg, q⟩
  unfold gAbs at hg
  split at hg
  · cases hg
    cases p with
    | cons p1 p =>
      cases p
      cases dp_int p1
      exact call_abs pins s σ H _ us Q I r ⟨_, rfl, alc_val q (.int _)⟩
  · cases hg
theorem cd_i2 {f : Value} {k : Int → Int → Option D} {g : Int → Int → Int} (ho : CallR X f (fun xs H Q => ∃ i j, xs = [.int i, .int j] ∧ Q (.int (g i j)) H)) (hk : ∀ i j d, k i j = some d → d = .int (g i j)) : CallD X f (I2 k) := by
  intro pins s σ H vs us Q I r ⟨B, as, z, sb, p, hg, q⟩
  unfold I2 at hg
  split at hg
  · rename_i i j
    cases e : k i j with
    | none => rw [e] at hg; cases hg
    | some d =>
      rw [e] at hg
      cases hg
      have := hk i j d e
      subst this
      cases p with
      | cons p1 p =>
        cases p with
        | cons p2 p =>
          cases p
          cases dp_int p1
          cases dp_int p2
          exact ho pins s σ H _ us Q I r ⟨i, j, rfl, alc_val q (.int _)⟩
  · cases hg
theorem cd_min2 (hc : X.calm = true) : CallD X (.builtin "min") gMin2 := cd_i2 (call_min2 hc) fun i j d e => by cases e; rfl
theorem row_of {d : D} {xs : List D} (h : rowOf d = some xs) : d = .list xs ∨ d = .tuple xs := by
  cases d <;> first | (cases h; first | exact .inl rfl | exact .inr rfl) | cases h
theorem cd_list : CallD X (.type "list") gList := by
  intro pins s σ H vs us Q I r ⟨B, as, z, sb, p, hg, q⟩
  unfold gList at hg
  split at hg
  · rename_i a
    cases e : a.data.bind rowOf with
    | none => rw [e] at hg; cases hg
    | some xs =>
      rw [e] at hg
      cases hg
      obtain ⟨d, e1, e2⟩ := Option.bind_eq_some_iff.mp e
      cases p with
      | cons p1 p =>
        cases p
        rcases row_of e2 with rfl | rfl
        · obtain ⟨l, vs, rfl, s1, d1⟩ := rs_list sb p1 e1
          exact call_list_of pins s σ H _ us Q I r ⟨l, vs, rfl, .inl (.of s1), alc_lst q d1⟩
        · obtain ⟨l, vs, rfl, s1, d1⟩ := rs_tuple sb p1 e1
          exact call_list_of pins s σ H _ us Q I r ⟨l, vs, rfl, .inr s1.sq, alc_lst q d1⟩
  · cases hg
theorem cd_tuple : CallD X (.type "tuple") gTuple := by
  intro pins s σ H vs us Q I r ⟨B, as, z, sb, p, hg, q⟩
  unfold gTuple at hg
  split at hg
  · rename_i a
    cases e : a.data.bind rowOf with
    | none => rw [e] at hg; cases hg
    | some xs =>
      rw [e] at hg
      cases hg
      obtain ⟨d, e1, e2⟩ := Option.bind_eq_some_iff.mp e
      cases p with
      | cons p1 p =>
        cases p
        rcases row_of e2 with rfl | rfl
        · obtain ⟨l, vs, rfl, s1, d1⟩ := rs_list sb p1 e1
          exact fcall_tuple pins s σ H _ us Q I r ⟨l, vs, rfl, .inl ⟨.of s1, alc_tup q d1⟩⟩
        · obtain ⟨l, vs, rfl, s1, d1⟩ := rs_tuple sb p1 e1
          refine fcall_tuple pins s σ H _ us Q I r ⟨l, vs, rfl, .inr ⟨s1.sq, ?_⟩⟩
          cases a with
          | fz d' => cases e1; exact alc_val q p1
          | ow c => cases c <;> cases e1
  · cases hg
theorem ixd_get : IxOD X gIx := by
  intro value slice pins s σ H x y v u Q I rx ry ⟨B, a, b, z, sb, r1, r2, hg, q⟩ hs
  obtain ⟨d, e, h1, h2, hf⟩ := g2_of hg
  cases hz : getD d e with
  | none => rw [hz] at hf; cases hf
  | some w =>
    rw [hz] at hf
    cases hf
    unfold getD at hz
    split at hz
    · rename_i xs i
      obtain ⟨j, e1, e2⟩ := Option.bind_eq_some_iff.mp hz
      obtain ⟨l, vs, rfl, s1, d1⟩ := rs_list sb r1 h1
      obtain ⟨v', e3, e4⟩ := d1.get e2
      refine ix_list value slice pins s σ H _ y v u Q I rx ry ⟨l, vs, i, v', rfl, rs_int r2 h2, .of s1, ?_, alc_val q e4⟩ hs
      unfold atI
      rw [d1.length, show ixN xs.length i = some j from e1]
      exact e3
    · rename_i xs i
      obtain ⟨j, e1, e2⟩ := Option.bind_eq_some_iff.mp hz
      obtain ⟨l, vs, rfl, s1, d1⟩ := rs_tuple sb r1 h1
      obtain ⟨v', e3, e4⟩ := d1.get e2
      refine ix_tup value slice pins s σ H _ y v u Q I rx ry ⟨l, vs, i, v', rfl, rs_int r2 h2, s1.sq, ?_, alc_val q e4⟩ hs
      unfold atI
      rw [d1.length, show ixN xs.length i = some j from e1]
      exact e3
    · cases hz
end
end DL
end

section
namespace DL
open PySem PySem.Spec PyProof.Rows L2
section
variable {X : Cx} {W : WX}
def DW (X : Cx) (W : WX) (e : Expr) (m : M Bool) : Prop := PW X e (tG (Cx.g X) W m rB)
theorem pw_weak {e : Expr} {t t' : TT} (h : PW X e t) (w : ∀ σ H Q, t' σ H Q → t σ H Q) : PW X e t' := ⟨fun whole pins s σ H Q I q => h.run whole pins s σ H Q I (w σ H Q q)⟩
theorem db_not {a : Expr} {pos : Pos} {m : M Bool} (h : DB X W a m) : DB X W (.UnaryOp .Not a pos) (mNot m) := pt_weak (pt_not h) fun σ H Q ⟨B, r, O, h⟩ => by
  refine tG.of ((h.bind later_rB (R := rB)).mono ?_)
  rintro y H1 ⟨v, B1, r1, O1, s1, x1, h1⟩
  cases x1
  exact h1.ret rfl
theorem dw_and1 {a : Expr} {pos : Pos} {m : M Bool} (h : DB X W a m) : DW X W (.BoolOp .And [a] pos) m := pw_and1 h
theorem dw_or1 {a : Expr} {pos : Pos} {m : M Bool} (h : DB X W a m) : DW X W (.BoolOp .Or [a] pos) m := pw_or1 h
theorem dw_and {a b : Expr} {es : List Expr} {pos : Pos} {m n : M Bool} (h : DB X W a m) (t : DW X W (.BoolOp .And (b :: es) pos) n) : DW X W (.BoolOp .And (a :: b :: es) pos) (mAnd m n) := pw_weak (pw_and h t) fun σ H Q ⟨B, r, O, h⟩ => by
  refine tG.of ((h.bind later_rB (R := rB)).mono ?_)
  rintro y H1 ⟨v, B1, r1, O1, s1, x1, h1⟩
  cases x1
  cases y with
  | true => exact iteT (tG.of h1)
  | false => exact iteF (h1.ret rfl)
theorem dw_or {a b : Expr} {es : List Expr} {pos : Pos} {m n : M Bool} (h : DB X W a m) (t : DW X W (.BoolOp .Or (b :: es) pos) n) : DW X W (.BoolOp .Or (a :: b :: es) pos) (mOr m n) := pw_weak (pw_or h t) fun σ H Q ⟨B, r, O, h⟩ => by
  refine tG.of ((h.bind later_rB (R := rB)).mono ?_)
  rintro y H1 ⟨v, B1, r1, O1, s1, x1, h1⟩
  cases x1
  cases y with
  | true => exact iteT (h1.ret rfl)
  | false => exact iteF (tG.of h1)
theorem db_w {e : Expr} {m : M Bool} (h : DW X W e m) : DB X W e m := PW.pt h
/-- an expression that gives True or False, as a test -/
theorem db_val {e : Expr} {m : M RV} (h : DE X W e m) (he : ∀ whole, isTrue e X.env whole = (do let v ← whole; standAt e.pos; holding [v] (truthy v)) := by intro _; rfl) : DB X W e (mTst m) := pt_weak (pt_val h he) fun σ H Q ⟨B, r, O, h⟩ => by
  refine tG.of ((h.bind later_rB (R := rV (Cx.g X))).mono ?_)
  rintro y H1 ⟨v, B1, r1, O1, s1, x1, h1⟩
  exact h1.ofBool x1
def rD (G : Ct2) : Rl D V := fun _ B' _ _ _ d v => Dq G.K B' v d
/-- a result that stands still from now on -/
theorem At.froz {m : M RV} {B : Hp} {r : Ro} {O : Addr → Prop} {σ : L2.St} {H : Hp} {Q : VK} (h : At (Cx.g X) W (mFz m) (rD (Cx.g X)) B r O σ H Q) : At (Cx.g X) W m (rV (Cx.g X)) B r O σ H Q := by
  obtain ⟨c, o, r', e, p⟩ := h
  refine ⟨c, ?_⟩
  unfold mFz M.bind at e
  cases q : m r with
  | none => rw [q] at e; cases e
  | some z =>
    obtain ⟨o1, r1⟩ := z
    rw [q] at e
    refine ⟨o1, r1, rfl, ?_⟩
    cases o1 with
    | exc x => cases e; exact p
    | ok rv =>
      simp only [M.of] at e
      cases qd : rv.data with
      | none => rw [qd] at e; cases e
      | some d =>
        rw [qd] at e
        cases e
        intro B1 H1 O1 v s1 c1 b1 x1
        obtain ⟨B2, s2, c2, dp, _⟩ := c1.frozen s1 x1 qd
        exact p B2 H1 O1 v s2 c2 b1 dp
theorem At.no {α β : Type} {R : Rl α β} {B : Hp} {r : Ro} {O : Addr → Prop} {σ : L2.St} {H : Hp} {Q : β → Hp → Prop} (h : At (Cx.g X) W (M.of none) R B r O σ H Q) : False := by
  obtain ⟨c, o, r', e, p⟩ := h
  cases e
theorem bool_of {v : RV} : (∃ b, v = .val (.bool b)) ∨ ∀ b, v ≠ .val (.bool b) := by
  cases v with
  | val d => cases d with
    | bool b => exact .inl ⟨b, rfl⟩
    | _ => exact .inr fun b e => by cases e
  | new c => exact .inr fun b e => by cases e
theorem de_one {a : Expr} {op : BoolOp} {pos : Pos} {m : M RV} (h : DE X W a m) : DE X W (.BoolOp op [a] pos) m := pe_one h
theorem de_and {a b : Expr} {es : List Expr} {pos : Pos} {m n : M RV} (h : DE X W a m) (t : DE X W (.BoolOp .And (b :: es) pos) n) : DE X W (.BoolOp .And (a :: b :: es) pos) (mAndV m n) := pe_weak (pe_and h t) fun σ H Q ⟨B, r, O, h⟩ => by
  refine tG.of ((h.bind later_rV (R := rV (Cx.g X))).mono ?_)
  rintro y H1 ⟨v, B1, r1, O1, s1, x1, h1⟩
  rcases bool_of (v := v) with ⟨b, rfl⟩ | n
  · cases dp_bl x1
    cases b with
    | true => exact ⟨true, rfl, iteT (tG.of h1)⟩
    | false => exact ⟨false, rfl, iteF (h1.ret (.bl _))⟩
  · split at h1
    · exact absurd rfl (n _)
    · exact absurd rfl (n _)
    · exact h1.no.elim
theorem de_not {a : Expr} {pos : Pos} {m : M RV} (h : DE X W a m) : DE X W (.UnaryOp .Not a pos) (mNotV m) := pe_weak (pe_not h) fun σ H Q ⟨B, r, O, h⟩ => by
  refine tG.of ((h.bind later_rV (R := rV (Cx.g X))).mono ?_)
  rintro y H1 ⟨v, B1, r1, O1, s1, x1, h1⟩
  rcases bool_of (v := v) with ⟨b, rfl⟩ | n
  · cases dp_bl x1
    exact ⟨b, rfl, h1.ret (.bl _)⟩
  · split at h1
    · exact absurd rfl (n _)
    · exact h1.no.elim
theorem dataAll_of {K : PySem.W.Frag} {B H : Hp} : ∀ {as : List Rs} {ds : List D} {vs : List V}, dataAll as = some ds → Paired (RsR K B H) as vs → DqAll K B vs ds
  | [], _, _, h, p => by cases h; cases p; exact .nil
  | .fz d :: as, ds, _, h, p => by
    cases p with
    | cons p1 p =>
      cases q : dataAll as with
      | none => simp only [dataAll, q] at h; cases h
      | some es =>
        simp only [dataAll, q] at h
        cases h
        exact .cons p1 (dataAll_of q p)
  | .ow c :: as, ds, _, h, p => by cases h
theorem At.ops {ms : List (M AV)} {g : List Rs → Option RV} {B : Hp} {r : Ro} {O : Addr → Prop} {σ : L2.St} {H : Hp} {Q : VK} (h : At (Cx.g X) W (mOp g ms) (rV (Cx.g X)) B r O σ H Q) :
    At (Cx.g X) W (oL ms) (rL (Cx.g X)) B r O σ H fun vs H1 => ∃ B1 xs z, Same B1 H1 ∧ Paired (RsR X.K B1 H1) xs vs ∧ g xs = some z ∧ ∀ H' v, Alc X.K B1 H1 H' z v → Q v H' := by
  refine (h.bind later_rV (R := rL (Cx.g X))).mono ?_
  rintro vs H1 ⟨as, B1, r1, O1, s1, x1, h1⟩
  obtain ⟨xs, z, sb, p, hg, q⟩ := h1.fin x1
  exact ⟨B1, xs, z, sb, p, hg, q⟩
theorem de_tup {es : List Expr} {x1 : Nat} {pos : Pos} {ms : List (M AV)} (h : DA X W es (oL ms)) : DE X W (.Tuple es x1 pos) (mOp gTup ms) := pe_weak (fe_tup h) fun σ H Q ⟨B, r, O, h⟩ => by
  refine tG.of (h.ops.mono ?_)
  rintro vs H1 ⟨B1, xs, z, sb, p, hg, q⟩
  unfold gTup at hg
  obtain ⟨ds, e1, e2⟩ := Option.bind_eq_some_iff.mp hg
  split at e2
  · rename_i hl
    cases e2
    have d := dataAll_of e1 p
    exact ⟨by rw [d.length, ← line_eq]; exact hl, alc_tup q d⟩
  · cases e2
theorem de_lst {es : List Expr} {pos : Pos} {ms : List (M AV)} (h : DA X W es (oL ms)) : DE X W (.List es pos) (mOp gLst ms) := pe_weak (pe_lst h) fun σ H Q ⟨B, r, O, h⟩ => by
  refine tG.of (h.ops.mono ?_)
  rintro vs H1 ⟨B1, xs, z, sb, p, hg, q⟩
  unfold gLst at hg
  obtain ⟨ds, e1, e2⟩ := Option.bind_eq_some_iff.mp hg
  split at e2
  · rename_i hl
    cases e2
    have d := dataAll_of e1 p
    exact ⟨by rw [d.length, ← line_eq]; exact hl, alc_lst q d⟩
  · cases e2
theorem de_cb {id : String} {g : List Rs → Option RV} {x : Str} {p pos : Pos} {e : Expr} {es : List Expr} {ms : List (M AV)} (hc : CallD X (.builtin id) g) (hg : Gl X x) (hm : X.mg x = none) (hv : bootBuiltins x = some (.builtin id)) (ha : DA X W (e :: es) (oL ms))
    (hn : x ≠ "__name__" := by decide) (hdb : (x == ("__debug__" : Str)) = false := by decide)
    (he : starEach (e :: es) X.env = (false, eval e X.env) :: starEach es X.env := by rfl) (hpl : (backTo pos (starEach es X.env)).any (·.1) = false := by rfl) : DE X W (.Call (.Name x p) (e :: es) [] pos) (mOp g ms) :=
  pe_weak (pe_callB hc hg hm hv ha hn hdb he hpl) fun σ H Q ⟨B, r, O, h⟩ => tG.of (h.ops)
theorem de_ct {T : String} {g : List Rs → Option RV} {x : Str} {p pos : Pos} {e : Expr} {es : List Expr} {ms : List (M AV)} (hc : CallD X (.type T) g) (hg : Gl X x) (hm : X.mg x = none) (hv : bootBuiltins x = some (.type T)) (ha : DA X W (e :: es) (oL ms))
    (hn : x ≠ "__name__" := by decide) (hdb : (x == ("__debug__" : Str)) = false := by decide)
    (he : starEach (e :: es) X.env = (false, eval e X.env) :: starEach es X.env := by rfl) (hpl : (backTo pos (starEach es X.env)).any (·.1) = false := by rfl) : DE X W (.Call (.Name x p) (e :: es) [] pos) (mOp g ms) :=
  pe_weak (pe_callTy hc hg hm hv ha hn hdb he hpl) fun σ H Q ⟨B, r, O, h⟩ => tG.of (h.ops)
end
end DL
end

section
namespace DL
open PySem
/-- what a def does: its arguments (an owned one is lent); the answer, the arguments behind it -/
abbrev Sem := List Rs → Option (EO RV × List Rs)
def toSl : Rs → Sl
  | .fz d => .frz false d
  | .ow c => .own true c
def backSl (b : Bool) : Rs → Sl
  | .fz d => .frz b d
  | .ow c => .own b c
def exitSl : Rs → Rs → Sl
  | .fz d, _ => .frz false d
  | .ow _, y => backSl true y
def ownIx : List AV → List Rs → List Nat
  | .slot i :: as, .ow _ :: xs => i :: ownIx as xs
  | _ :: as, _ :: xs => ownIx as xs
  | _, _ => []
def put1 (r : Ro) (i : Nat) (y : Rs) : Ro := match r[i]? with
  | some (.own b _) => r.set i (backSl b y)
  | _ => r
def putBack : Ro → List AV → List Rs → List Rs → Ro
  | r, .slot i :: as, .ow _ :: xs, y :: ys => putBack (put1 r i y) as xs ys
  | r, _ :: as, _ :: xs, _ :: ys => putBack r as xs ys
  | r, _, _, _ => r
def mCall (f : Sem) (ms : List (M AV)) : M RV := (oL ms).bind fun as => fun r => match looks r as with
  | none => none
  | some xs => if (ownIx as xs).Nodup ∧ (ownIx as xs).all (noAl r) = true then match f xs with
      | some (o, ys) => if ys.length = xs.length then some (o, putBack r as xs ys) else none
      | none => none
    else none
/-- a statement's end -/
inductive SO where
  | nx
  | ret (v : RV)
  /-- what slot i holds, with all that it owns -/
  | rets (i : Nat)
  | brk
  | cnt
  | exc (x : Exn)
def S := Ro → Option (SO × Ro)
def sNx : S := fun r => some (.nx, r)
def sSeq (a b : S) : S := fun r => match a r with
  | some (.nx, r') => b r'
  | z => z
def sEx {α : Type} (m : M α) (k : α → S) : S := fun r => match m r with
  | none => none
  | some (.ok a, r') => k a r'
  | some (.exc x, r') => some (.exc x, r')
def sRet (m : M RV) : S := sEx m fun v r => some (.ret v, r)
def sIf (t : M Bool) (a b : S) : S := sEx t fun c => if c then a else b
def sDrop (m : M RV) : S := sEx m fun _ => sNx
/-- the slot i gets a result; a lent parameter's slot can't be stored to -/
def putSl (i : Nat) (v : RV) : S := fun r => match r[i]? with
  | none => none
  | some x => if pinnedB x then none else match v with
      | .val d => some (.nx, r.set i (.frz false d))
      | .new (.ll rows) => if noAl r i then some (.nx, r.set i (.own false (.ll rows))) else none
      | .new c => some (.nx, r.set i (.own false c))
where pinnedB : Sl → Bool
  | .frz b _ => b
  | .own b _ => b
  | .non => false
  | .al _ _ => false
def sSet (i : Nat) (m : M RV) : S := sEx m (putSl i)
def outs : List Rs → Nat → Ro → List Rs
  | [], _, _ => []
  | .fz d :: xs, k, r => .fz d :: outs xs (k + 1) r
  | .ow c :: xs, k, r => (match r[k]? with
      | some (.own _ c') => .ow c'
      | some (.frz _ d) => .fz d
      | _ => .ow c) :: outs xs (k + 1) r
def allFz : List Rs → Bool
  | [] => true
  | .fz _ :: xs => allFz xs
  | .ow _ :: _ => false
/-- an object handed on: only where no object was lent -/
def handOn (xs : List Rs) (i : Nat) (r : Ro) : Option (EO RV × List Rs) := match r[i]? with
  | some (.own false c) => if allFz xs = true then some (.ok (.new c), outs xs 0 (r.set i .non)) else none
  | _ => none
/-- a def of n parameters and N names by its body -/
def defSem (n N : Nat) (body : S) : Sem := fun xs => if xs.length = n then match body (xs.map toSl ++ List.replicate (N - n) .non) with
    | some (.ret v, r) => some (.ok v, outs xs 0 r)
    | some (.rets i, r) => handOn xs i r
    | some (.nx, r) => some (.ok (.val .none), outs xs 0 r)
    | some (.exc x, r) => some (.exc x, outs xs 0 r)
    | _ => none
  else none
end DL
end

section
namespace DL
open PySem PySem.Spec PyProof.Rows L2
theorem put1_ne {r : Ro} {i j : Nat} {y : Rs} (h : j ≠ i) : (put1 r i y)[j]? = r[j]? := by
  unfold put1
  split
  · exact List.getElem?_set_ne (Ne.symm h)
  · rfl
theorem put1_at {r : Ro} {i : Nat} {y : Rs} {b : Bool} {c : Ct} (h : r[i]? = some (Sl.own b c)) : (put1 r i y)[i]? = some (backSl b y) := by
  unfold put1
  rw [h]
  obtain ⟨hl, _⟩ := List.getElem?_eq_some_iff.mp h
  exact List.getElem?_set_self hl
theorem put1_len {r : Ro} {i : Nat} {y : Rs} : (put1 r i y).length = r.length := by
  unfold put1
  split <;> simp
theorem ownIx_mem : ∀ {as : List AV} {xs : List Rs} {k i : Nat} {c : Ct}, as[k]? = some (AV.slot i) → xs[k]? = some (Rs.ow c) → i ∈ ownIx as xs
  | [], _, _, _, _, h, _ => by simp at h
  | _ :: _, [], _, _, _, _, h => by simp at h
  | a :: as, x :: xs, 0, i, c, h, g => by
    simp at h g
    subst h g
    simp [ownIx]
  | a :: as, x :: xs, k + 1, i, c, h, g => by
    have := ownIx_mem (as := as) (xs := xs) (k := k) (i := i) (c := c) (by simpa using h) (by simpa using g)
    cases a <;> cases x <;> simp [ownIx, this]
theorem ownIx_of : ∀ {as : List AV} {xs : List Rs} {i : Nat}, i ∈ ownIx as xs → ∃ (k : Nat) (c : Ct), as[k]? = some (AV.slot i) ∧ xs[k]? = some (Rs.ow c)
  | [], _, _, h => by simp [ownIx] at h
  | a :: as, [], _, h => by cases a <;> simp [ownIx] at h
  | a :: as, x :: xs, i, h => by
    have rc : i ∈ ownIx as xs → ∃ (k : Nat) (c : Ct), (a :: as)[k]? = some (AV.slot i) ∧ (x :: xs)[k]? = some (Rs.ow c) := fun h => by
      obtain ⟨k, c, h1, h2⟩ := ownIx_of h
      exact ⟨k + 1, c, by simpa using h1, by simpa using h2⟩
    cases a with
    | val d => exact rc (by cases x <;> simpa [ownIx] using h)
    | slot j =>
      cases x with
      | fz d => exact rc (by simpa [ownIx] using h)
      | ow c =>
        simp only [ownIx, List.mem_cons] at h
        rcases h with rfl | h
        · exact ⟨0, c, rfl, rfl⟩
        · exact rc h
theorem putBack_len : ∀ {as : List AV} {xs ys : List Rs} {r : Ro}, (putBack r as xs ys).length = r.length
  | [], _, _, r => by simp [putBack]
  | a :: as, [], _, r => by cases a <;> simp [putBack]
  | a :: as, x :: xs, [], r => by cases a <;> cases x <;> simp [putBack]
  | a :: as, x :: xs, y :: ys, r => by
    cases a <;> cases x <;> simp only [putBack] <;> rw [putBack_len] <;> exact put1_len
theorem putBack_out : ∀ {as : List AV} {xs ys : List Rs} {r : Ro} {j : Nat}, j ∉ ownIx as xs → (putBack r as xs ys)[j]? = r[j]?
  | [], _, _, r, j, _ => by simp [putBack]
  | a :: as, [], _, r, j, _ => by cases a <;> simp [putBack]
  | a :: as, x :: xs, [], r, j, _ => by cases a <;> cases x <;> simp [putBack]
  | a :: as, x :: xs, y :: ys, r, j, h => by
    cases a with
    | val d => cases x <;> exact putBack_out (as := as) (xs := xs) (ys := ys) (by simpa [ownIx] using h)
    | slot i =>
      cases x with
      | fz d => exact putBack_out (as := as) (xs := xs) (ys := ys) (by simpa [ownIx] using h)
      | ow c =>
        simp only [ownIx, List.mem_cons, not_or] at h
        show (putBack (put1 r i y) as xs ys)[j]? = _
        rw [putBack_out (as := as) (xs := xs) (ys := ys) h.2, put1_ne h.1]
theorem putBack_in : ∀ {as : List AV} {xs ys : List Rs} {r : Ro} {k i : Nat} {c c0 : Ct} {y : Rs} {b : Bool}, (ownIx as xs).Nodup → as[k]? = some (AV.slot i) → xs[k]? = some (Rs.ow c) → ys[k]? = some y → r[i]? = some (Sl.own b c0) →
    (putBack r as xs ys)[i]? = some (backSl b y)
  | [], _, _, _, _, _, _, _, _, _, _, h, _, _, _ => by simp at h
  | _ :: _, [], _, _, _, _, _, _, _, _, _, _, h, _, _ => by simp at h
  | _ :: _, _ :: _, [], _, _, _, _, _, _, _, _, _, _, h, _ => by simp at h
  | a :: as, x :: xs, z :: ys, r, 0, i, c, c0, y, b, nd, h1, h2, h3, h4 => by
    simp at h1 h2 h3
    subst h1 h2 h3
    simp only [ownIx, List.nodup_cons] at nd
    show (putBack (put1 r i z) as xs ys)[i]? = _
    rw [putBack_out nd.1]
    exact put1_at h4
  | a :: as, x :: xs, z :: ys, r, k + 1, i, c, c0, y, b, nd, h1, h2, h3, h4 => by
    have h1' : as[k]? = some (AV.slot i) := by simpa using h1
    have h2' : xs[k]? = some (Rs.ow c) := by simpa using h2
    have h3' : ys[k]? = some y := by simpa using h3
    cases a with
    | val d => cases x <;> exact putBack_in (as := as) (xs := xs) (ys := ys) (by simpa [ownIx] using nd) h1' h2' h3' h4
    | slot j =>
      cases x with
      | fz d => exact putBack_in (as := as) (xs := xs) (ys := ys) (by simpa [ownIx] using nd) h1' h2' h3' h4
      | ow c2 =>
        simp only [ownIx, List.nodup_cons] at nd
        have hne : i ≠ j := fun e => nd.1 (e ▸ ownIx_mem h1' h2')
        exact putBack_in (r := put1 r j z) (as := as) (xs := xs) (ys := ys) nd.2 h1' h2' h3' (by rw [put1_ne hne]; exact h4)
theorem looks_get {r : Ro} : ∀ {as : List AV} {xs : List Rs} {k : Nat} {x : Rs}, looks r as = some xs → xs[k]? = some x → ∃ a, as[k]? = some a ∧ look r a = some x
  | [], xs, k, x, h, e => by cases h; simp at e
  | a :: as, xs, k, x, h, e => by
    simp only [looks] at h
    split at h
    · rename_i y ys h1 h2
      cases h
      cases k with
      | zero => simp at e; subst e; exact ⟨a, rfl, h1⟩
      | succ k =>
        obtain ⟨b, g1, g2⟩ := looks_get (k := k) h2 (by simpa using e)
        exact ⟨b, by simpa using g1, g2⟩
    · cases h
theorem look_ow {r : Ro} {a : AV} {c : Ct} (h : look r a = some (.ow c)) : ∃ i b, a = .slot i ∧ r[i]? = some (Sl.own b c) := by
  cases a with
  | val d => cases h
  | slot i =>
    simp only [look] at h
    split at h
    · cases h
    · rename_i b c' q; cases h; exact ⟨i, b, rfl, q⟩
    · cases h
theorem paired_get {α β : Type} {F : α → β → Prop} : ∀ {l : List α} {m : List β} {k : Nat} {x : α}, Paired F l m → l[k]? = some x → ∃ y, m[k]? = some y ∧ F x y
  | _, _, _, _, .nil, e => by simp at e
  | _, _, 0, x, .cons h t, e => by simp at e; subst e; exact ⟨_, rfl, h⟩
  | _, _, k + 1, x, .cons h t, e => by
    obtain ⟨y, h1, h2⟩ := paired_get (k := k) t (by simpa using e)
    exact ⟨y, by simpa using h1, h2⟩
section
variable {K : PySem.W.Frag} {B H B' H' : Hp} {σ : L2.St} {r : Ro} {O Oc' : Addr → Prop} {as : List AV} {xs ys : List Rs} {vs : List V}
/-- what is lent -/
def lent (K : PySem.W.Frag) (B H : Hp) (O : Addr → Prop) (xs : List Rs) (vs : List V) : Addr → Prop := fun a => O a ∧ ∃ (k : Nat) (c : Ct) (l : Addr) (F : List Addr), xs[k]? = some (Rs.ow c) ∧ vs[k]? = some (V.ref l) ∧ OwnR K B H c l F ∧ a ∈ F
/-- the slots at a callee's entry -/
theorem call_in (c : Con K B H σ r O) (lk : looks r as = some xs) (pv : Paired (AvR K B σ) as vs) (nd : (ownIx as xs).Nodup) : Con K B H (vs.map some) (xs.map toSl) (lent K B H O xs vs) := by
  have px := c.looks lk pv
  have own : ∀ (k : Nat) b ct, (xs.map toSl)[k]? = some (Sl.own b ct) → ∃ i b0 l F, as[k]? = some (AV.slot i) ∧ xs[k]? = some (Rs.ow ct) ∧ r[i]? = some (Sl.own b0 ct) ∧ σ[i]? = some (some (V.ref l)) ∧ vs[k]? = some (V.ref l) ∧ OwnR K B H ct l F ∧ ∀ a ∈ F, O a := by
    intro k b ct e
    rw [List.getElem?_map] at e
    cases q : xs[k]? with
    | none => rw [q] at e; cases e
    | some x =>
      rw [q] at e
      cases x with
      | fz d => cases e
      | ow c2 =>
        cases e
        obtain ⟨a, h1, h2⟩ := looks_get lk q
        obtain ⟨i, b0, rfl, h3⟩ := look_ow h2
        obtain ⟨l, F, g1, g2, g3⟩ := c.own i b0 _ h3
        obtain ⟨v, e1, e2⟩ := paired_get pv h1
        rw [show σ[i]? = some (some v) from e2] at g1; cases g1
        exact ⟨i, b0, l, F, h1, rfl, h3, e2, e1, g2, g3⟩
  refine ⟨⟨c.sub, fun a h => c.off a h.1, fun a h => c.liv a h.1, by rw [List.length_map, List.length_map, px.length], fun k b d e => ?_, fun k b ct e => ?_, fun k j b c1 b' c2 l l' F F' ne e1 e2 s1 s2 o1 o2 => ?_⟩, fun i j k h => ?_⟩
  · rw [List.getElem?_map] at e
    cases q : xs[k]? with
    | none => rw [q] at e; cases e
    | some x =>
      rw [q] at e
      cases x with
      | ow c2 => cases e
      | fz d2 =>
        cases e
        obtain ⟨v, e1, e2⟩ := paired_get px q
        exact ⟨v, by rw [List.getElem?_map, e1]; rfl, e2⟩
  · obtain ⟨i, b0, l, F, h1, h2, h3, h4, h5, h6, h7⟩ := own k b ct e
    exact ⟨l, F, by rw [List.getElem?_map, h5]; rfl, h6, fun a ha => ⟨h7 a ha, k, ct, l, F, h2, h5, h6, ha⟩⟩
  · obtain ⟨i, b0, m, G, h1, h2, h3, h4, h5, h6, h7⟩ := own k b c1 e1
    obtain ⟨i', b0', m', G', h1', h2', h3', h4', h5', h6', h7'⟩ := own j b' c2 e2
    rw [List.getElem?_map, h5] at s1; cases s1
    rw [List.getElem?_map, h5'] at s2; cases s2
    refine c.sep i i' b0 c1 b0' c2 _ _ F F' (fun e => ?_) h3 h3' h4 h4' o1 o2
    subst e
    -- one slot at two places
    exact absurd nd (ownIx_two ne h1 h1' h2 h2')
  · rw [List.getElem?_map] at h
    cases q : xs[i]? with
    | none => rw [q] at h; cases h
    | some x => rw [q] at h; cases x <;> cases h
where
  ownIx_two : ∀ {as : List AV} {xs : List Rs} {k j i : Nat} {c c' : Ct}, k ≠ j → as[k]? = some (AV.slot i) → as[j]? = some (AV.slot i) → xs[k]? = some (Rs.ow c) → xs[j]? = some (Rs.ow c') → ¬ (ownIx as xs).Nodup
    | [], _, _, _, _, _, _, _, h, _, _, _ => by simp at h
    | _ :: _, [], _, _, _, _, _, _, _, _, h, _ => by simp at h
    | a :: as, x :: xs, 0, 0, _, _, _, n, _, _, _, _ => absurd rfl n
    | a :: as, x :: xs, 0, j + 1, i, c, c', _, h1, h2, h3, h4 => by
      simp at h1 h3
      subst h1 h3
      have := ownIx_mem (as := as) (xs := xs) (k := j) (i := i) (c := c') (by simpa using h2) (by simpa using h4)
      simp [ownIx, this]
    | a :: as, x :: xs, k + 1, 0, i, c, c', _, h1, h2, h3, h4 => by
      simp at h2 h4
      subst h2 h4
      have := ownIx_mem (as := as) (xs := xs) (k := k) (i := i) (c := c) (by simpa using h1) (by simpa using h3)
      simp [ownIx, this]
    | a :: as, x :: xs, k + 1, j + 1, i, c, c', n, h1, h2, h3, h4 => by
      have := ownIx_two (as := as) (xs := xs) (k := k) (j := j) (i := i) (c := c) (c' := c') (fun e => n (by rw [e])) (by simpa using h1) (by simpa using h2) (by simpa using h3) (by simpa using h4)
      cases a <;> cases x <;> simp_all [ownIx]
/-- the slots behind a call -/
theorem call_out (c : Con K B H σ r O) (lk : looks r as = some xs) (pv : Paired (AvR K B σ) as vs) (nd : (ownIx as xs).Nodup) (na : (ownIx as xs).all (noAl r) = true) (hl : ys.length = xs.length) (s : Step B H (lent K B H O xs vs) B' H' Oc')
    (c' : Con K B' H' (vs.map some) (List.zipWith exitSl xs ys) Oc') :
    ∃ O', Step B H O B' H' O' ∧ Con K B' H' σ (putBack r as xs ys) O' ∧ Bor r σ (putBack r as xs ys) σ ∧ ∀ a, O' a → O a ∨ Oc' a := by
  have px := c.looks lk pv
  -- a slot that was lent
  have back : ∀ (i : Nat), i ∈ ownIx as xs → ∃ (k : Nat) (ct : Ct) (b : Bool) (y : Rs) (l : Addr), as[k]? = some (AV.slot i) ∧ xs[k]? = some (Rs.ow ct) ∧ r[i]? = some (Sl.own b ct) ∧ ys[k]? = some y ∧ vs[k]? = some (V.ref l) ∧ σ[i]? = some (some (V.ref l)) ∧ (putBack r as xs ys)[i]? = some (backSl b y) ∧ (List.zipWith exitSl xs ys)[k]? = some (backSl true y) := by
    intro i hi
    obtain ⟨k, ct, h1, h2⟩ := ownIx_of hi
    obtain ⟨a, g1, g2⟩ := looks_get lk h2
    rw [h1] at g1; cases g1
    obtain ⟨i', b, e, h3⟩ := look_ow g2
    cases e
    obtain ⟨l, F, q1, q2, q3⟩ := c.own i b ct h3
    obtain ⟨v, e1, e2⟩ := paired_get pv h1
    rw [show σ[i]? = some (some v) from e2] at q1; cases q1
    have hk : k < ys.length := by rw [hl]; exact (List.getElem?_eq_some_iff.mp h2).1
    refine ⟨k, ct, b, ys[k], l, h1, h2, h3, List.getElem?_eq_getElem hk, e1, e2, putBack_in nd h1 h2 (List.getElem?_eq_getElem hk) h3, ?_⟩
    rw [List.getElem?_zipWith, h2, List.getElem?_eq_getElem hk]
    rfl
  -- what was owned and not lent
  have kept : ∀ (i : Nat) b ct l F, i ∉ ownIx as xs → r[i]? = some (Sl.own b ct) → σ[i]? = some (some (V.ref l)) → OwnR K B H ct l F → ∀ a ∈ F, O a ∧ ¬ lent K B H O xs vs a ∧ H' a = H a ∧ B' a = none := by
    intro i b ct l F hi e hs o a ha
    obtain ⟨l0, F0, q1, q2, q3⟩ := c.own i b ct e
    rw [hs] at q1; cases q1
    rw [ownR_uniq o q2 fun _ _ => rfl] at q3
    have nl : ¬ lent K B H O xs vs a := fun ⟨_, k, c2, l2, F2, x1, x2, x3, x4⟩ => by
      obtain ⟨a2, g1, g2⟩ := looks_get lk x1
      obtain ⟨j, b2, e2, h3⟩ := look_ow g2
      subst e2
      obtain ⟨v, e1, e2⟩ := paired_get pv g1
      rw [x2] at e1; cases e1
      exact c.sep i j b ct b2 c2 l l2 F F2 (fun z => hi (z ▸ ownIx_mem g1 x1)) e h3 hs e2 o x3 a ha x4
    have oa := q3 a ha
    have ha0 := c.liv a oa
    refine ⟨oa, nl, ?_, s.nB a ha0 nl (c.off a oa)⟩
    cases q : H a with
    | none => exact absurd q ha0
    | some x => exact s.keep a x q nl
  have sB := s.sB
  refine ⟨fun a => (O a ∨ Oc' a) ∧ B' a = none ∧ H' a ≠ none, ⟨sB, fun a o h n => s.keep a o h fun z => n z.1, s.live, fun a h n b => s.nB a h (fun z => n z.1) b, fun a h => ?_⟩, ⟨⟨c'.sub, fun a h => h.2.1, fun a h => h.2.2, by rw [putBack_len, c.len], fun i b d e => ?_, fun i b ct e => ?_, fun i j b c1 b' c2 l l' F F' ne e1 e2 s1 s2 o1 o2 => ?_⟩, fun i j k h b rows l as2 h1 h2 h3 => ?_⟩, fun i x e p => ⟨?_, rfl⟩, fun a h => h.1⟩
  · rcases h.1 with h | h
    · exact .inl h
    · exact (s.nO a h).elim (fun z => .inl z.1) .inr
  · by_cases hi : i ∈ ownIx as xs
    · obtain ⟨k, ct, b0, y, l, h1, h2, h3, h4, h5, h6, h7, h8⟩ := back i hi
      rw [h7] at e
      cases y with
      | ow _ => cases e
      | fz d2 =>
        cases e
        obtain ⟨v, g1, g2⟩ := c'.frz k true d h8
        rw [List.getElem?_map, h5] at g1; cases g1
        exact ⟨_, h6, g2⟩
    · rw [putBack_out hi] at e
      obtain ⟨v, g1, g2⟩ := c.frz i b d e
      exact ⟨v, g1, dp_same sB g2⟩
  · by_cases hi : i ∈ ownIx as xs
    · obtain ⟨k, ct0, b0, y, l, h1, h2, h3, h4, h5, h6, h7, h8⟩ := back i hi
      rw [h7] at e
      cases y with
      | fz _ => cases e
      | ow c2 =>
        cases e
        obtain ⟨l2, F, g1, g2, g3⟩ := c'.own k true _ h8
        rw [List.getElem?_map, h5] at g1; cases g1
        exact ⟨_, F, h6, g2, fun a ha => ⟨.inr (g3 a ha), c'.off a (g3 a ha), c'.liv a (g3 a ha)⟩⟩
    · rw [putBack_out hi] at e
      obtain ⟨l, F, g1, g2, g3⟩ := c.own i b ct e
      have kp := kept i b ct l F hi e g1 g2
      exact ⟨l, F, g1, ownR_same g2 sB fun a ha => (kp a ha).2.2.1, fun a ha => ⟨.inl (kp a ha).1, (kp a ha).2.2.2, by rw [(kp a ha).2.2.1]; exact c.liv a (kp a ha).1⟩⟩
  · -- apart
    have mixed : ∀ (i j : Nat) b c1 b' c2 l l' F F', i ∈ ownIx as xs → j ∉ ownIx as xs → (putBack r as xs ys)[i]? = some (Sl.own b c1) → (putBack r as xs ys)[j]? = some (Sl.own b' c2) → σ[i]? = some (some (V.ref l)) → σ[j]? = some (some (V.ref l')) →
        OwnR K B' H' c1 l F → OwnR K B' H' c2 l' F' → ∀ a ∈ F, a ∉ F' := by
      intro i j b c1 b' c2 l l' F F' hi hj e1 e2 s1 s2 o1 o2 a ha hb
      obtain ⟨k, ct0, b0, y, l0, h1, h2, h3, h4, h5, h6, h7, h8⟩ := back i hi
      rw [h7] at e1
      cases y with
      | fz _ => cases e1
      | ow c3 =>
        cases e1
        obtain ⟨l2, F2, g1, g2, g3⟩ := c'.own k true _ h8
        rw [List.getElem?_map, h5] at g1; cases g1
        rw [h6] at s1; cases s1
        rw [ownR_uniq o1 g2 fun _ _ => rfl] at g3
        rw [putBack_out hj] at e2
        obtain ⟨l3, F3, q1, q2, q3⟩ := c.own j b' c2 e2
        rw [s2] at q1; cases q1
        have kp := kept j b' c2 _ F3 hj e2 s2 q2
        rw [ownR_uniq q2 o2 fun a ha => (kp a ha).2.2.1] at hb
        rcases s.nO a (g3 a ha) with z | z
        · exact (kp a hb).2.1 z
        · exact c.liv a (kp a hb).1 z
    by_cases hi : i ∈ ownIx as xs
    · by_cases hj : j ∈ ownIx as xs
      · obtain ⟨k, ct0, b0, y, l0, h1, h2, h3, h4, h5, h6, h7, h8⟩ := back i hi
        obtain ⟨k', ct0', b0', y', l0', h1', h2', h3', h4', h5', h6', h7', h8'⟩ := back j hj
        rw [h7] at e1
        rw [h7'] at e2
        rw [h6] at s1; cases s1
        rw [h6'] at s2; cases s2
        cases y with
        | fz _ => cases e1
        | ow c3 =>
          cases y' with
          | fz _ => cases e2
          | ow c3' =>
            cases e1
            cases e2
            refine c'.sep k k' true _ true _ _ _ F F' (fun z => ?_) h8 h8' (by rw [List.getElem?_map, h5]; rfl) (by rw [List.getElem?_map, h5']; rfl) o1 o2
            subst z
            rw [h1] at h1'; cases h1'
            exact ne rfl
      · exact mixed i j b c1 b' c2 l l' F F' hi hj e1 e2 s1 s2 o1 o2
    · by_cases hj : j ∈ ownIx as xs
      · exact fun a ha hb => mixed j i b' c2 b c1 l' l F' F hj hi e2 e1 s2 s1 o2 o1 a hb ha
      · rw [putBack_out hi] at e1
        rw [putBack_out hj] at e2
        obtain ⟨l3, F3, q1, q2, q3⟩ := c.own i b c1 e1
        rw [s1] at q1; cases q1
        obtain ⟨l4, F4, q1', q2', q3'⟩ := c.own j b' c2 e2
        rw [s2] at q1'; cases q1'
        have kp := kept i b c1 _ F3 hi e1 s1 q2
        have kp' := kept j b' c2 _ F4 hj e2 s2 q2'
        rw [ownR_uniq q2 o1 fun a ha => (kp a ha).2.2.1, ownR_uniq q2' o2 fun a ha => (kp' a ha).2.2.1]
        exact c.sep i j b c1 b' c2 _ _ _ _ ne e1 e2 s1 s2 q2 q2'
  · -- a slot that looks into another one
    have hi : i ∉ ownIx as xs := fun hi => by
      obtain ⟨k', ct, b0, y, l0, g1, g2, g3, g4, g5, g6, g7, g8⟩ := back i hi
      rw [g7] at h
      cases y <;> cases h
    rw [putBack_out hi] at h
    have hj : j ∉ ownIx as xs := fun hj => absurd h (noAl_of (List.all_eq_true.mp na j hj))
    rw [putBack_out hj] at h1
    obtain ⟨l0, F, g1, g2, g3⟩ := c.own j b _ h1
    rw [h2] at g1; cases g1
    rw [(kept j b _ _ F hj h1 h2 g2 _ (ownR_mem g2)).2.2.1] at h3
    exact c.al i j k h b rows _ as2 h1 h2 h3
  · -- a lent parameter of ours
    by_cases hi : i ∈ ownIx as xs
    · obtain ⟨k, ct0, b0, y, l0, h1, h2, h3, h4, h5, h6, h7, h8⟩ := back i hi
      rw [h3] at e; cases e
      have p : b0 = true := p
      subst p
      exact ⟨_, h7, by cases y <;> rfl⟩
    · exact ⟨x, by rw [putBack_out hi]; exact e, p⟩
end
/-- what a def promises, by its meaning -/
def spD (K : PySem.W.Frag) (mg : Str → Option Value) (f : Sem) (n : Nat) : Sp := fun vs H Q E => vs.length = n ∧ ∃ B O xs, Con K B H (vs.map some) (xs.map toSl) O ∧ ∃ o ys, f xs = some (o, ys) ∧ ys.length = xs.length ∧ match o with
  | .ok rv => ∀ B' H' O' v, Step B H O B' H' O' → Con K B' H' (vs.map some) (List.zipWith exitSl xs ys) O' → RvR K H B' H' O' rv v → Q v H'
  | .exc x => ∀ B' H' O' c dx, Step B H O B' H' O' → Con K B' H' (vs.map some) (List.zipWith exitSl xs ys) O' → XnR K mg x c dx H' → E c dx H'
section
variable {X : Cx} {W : WX}
theorem de_call {k : Nat} {f : Addr} {fd : FuncData} {ps : List Str} {sem : Sem} {x : Str} {p pos : Pos} {e : Expr} {es : List Expr} {ms : List (M AV)} (tk : L2N.Takes X W)
    (F : FnOk X.prog X.w X.K X.mg X.base (L2N.CX X.prog X.w) k f fd ps (spD X.K X.mg sem ps.length)) (hr : Room k X.A) (hg : Gl X x) (hm : X.mg x = some (.ref f)) (hk : PySem.W.keepIn X.K (.ref f) = true) (hb : Binds X.K fd ps [])
    (hn : ms.length = ps.length) (ha : DA X W (e :: es) (oL ms)) (hdb : (x == ("__debug__" : Str)) = false := by decide) (he : starEach (e :: es) X.env = (false, eval e X.env) :: starEach es X.env := by rfl) (hpl : (backTo pos (starEach es X.env)).any (·.1) = false := by rfl) :
    DE X W (.Call (.Name x p) (e :: es) [] pos) (mCall sem ms) := pe_weak (pe_callS F hr hg hm hk hb (fun σ => L2N.passAt tk σ) ha hdb he hpl) fun σ H Q ⟨B, r, O, h⟩ => by
  have olen : ∀ (ms : List (M AV)) (r : Ro) as r', oL ms r = some (.ok as, r') → as.length = ms.length := by
    intro ms
    induction ms with
    | nil => intro r as r' e; cases e; rfl
    | cons m ms ih =>
      intro r as r' e
      unfold oL M.bind at e
      split at e
      · cases e
      · rename_i a r1 q
        simp only [M.bind] at e
        split at e
        · cases e
        · rename_i as2 r2 q2
          cases e
          rw [List.length_cons, ih _ _ _ q2, List.length_cons]
        · cases e
      · cases e
  obtain ⟨c0, o0, r0, e0, p0⟩ := h
  have hlen : ∀ as r1, oL ms r = some (.ok as, r1) → as.length = ps.length := fun as r1 q => (olen ms r as r1 q).trans hn
  have h : At (Cx.g X) W (mCall sem ms) (rV (Cx.g X)) B r O σ H Q := ⟨c0, o0, r0, e0, p0⟩
  refine ⟨B, r, O, c0, ?_⟩
  unfold mCall M.bind at e0
  cases q : oL ms r with
  | none => rw [q] at e0; cases e0
  | some z =>
    obtain ⟨o1, r1⟩ := z
    rw [q] at e0
    refine ⟨o1, r1, rfl, ?_⟩
    cases o1 with
    | exc x => cases e0; exact p0
    | ok as =>
      intro B1 H1 O1 vs s1 c1 b1 x1
      simp only at e0
      cases q2 : looks r1 as with
      | none => rw [q2] at e0; cases e0
      | some xs =>
        rw [q2] at e0
        simp only at e0
        split at e0
        · rename_i nd
          cases q3 : sem xs with
          | none => rw [q3] at e0; cases e0
          | some z3 =>
            obtain ⟨o3, ys⟩ := z3
            rw [q3] at e0
            simp only at e0
            split at e0
            · rename_i hl
              cases e0
              have x1 : Paired (AvR X.K B1 σ) as vs := x1
              refine ⟨by rw [← x1.length]; exact hlen as r1 q, B1, lent X.K B1 H1 O1 xs vs, xs, call_in c1 q2 x1 nd.1, o0, ys, q3, hl, ?_⟩
              cases o0 with
              | ok rv =>
                intro B' H' O' v s2 c2 x2
                obtain ⟨O2, s3, c3, b3, ho⟩ := call_out c1 q2 x1 nd.1 nd.2 hl s2 c2
                refine p0 B' H' O2 v (s1.trans s3) c3 (b1.trans b3) (later_rV H H1 B' H' O2 σ rv v s1.live ?_)
                cases rv with
                | val d => exact x2
                | new ct =>
                  obtain ⟨l, F, e1, o, hF⟩ := x2
                  refine ⟨l, F, e1, o, fun a ha => ⟨(hF a ha).1, (hF a ha).2.1, fun z => ?_⟩⟩
                  rcases ho a z with z | z
                  · exact c1.liv a z (hF a ha).1
                  · exact (hF a ha).2.2 z
              | exc x =>
                intro B' H' O' c dx s2 c2 x2
                obtain ⟨O2, s3, c3, b3, ho⟩ := call_out c1 q2 x1 nd.1 nd.2 hl s2 c2
                exact p0 B' H' O2 c dx (s1.trans s3) c3 (b1.trans b3) x2
            · cases e0
        · cases e0
end
end DL
end

section
namespace DL
open PySem PySem.Spec PyProof.Rows L2
/-- what a statement's end has to bring -/
def PostS (G : Ct2) (W : WX) (B : Hp) (r : Ro) (O : Addr → Prop) (σ : L2.St) (H : Hp) (D : Ends) (r' : Ro) : SO → Prop
  | .nx => ∀ B' H' O' σ', Step B H O B' H' O' → Con G.K B' H' σ' r' O' → Bor r σ r' σ' → D.nx σ' H'
  | .brk => ∀ B' H' O' σ', Step B H O B' H' O' → Con G.K B' H' σ' r' O' → Bor r σ r' σ' → D.bk σ' H'
  | .cnt => ∀ B' H' O' σ', Step B H O B' H' O' → Con G.K B' H' σ' r' O' → Bor r σ r' σ' → D.ct σ' H'
  | .ret v => ∀ B' H' O' σ' x, Step B H O B' H' O' → Con G.K B' H' σ' r' O' → Bor r σ r' σ' → RvR G.K H B' H' O' v x → D.rt x H'
  | .rets i => ∀ B' H' O' σ' x, Step B H O B' H' O' → Con G.K B' H' σ' r' O' → Bor r σ r' σ' → σ'[i]? = some (some x) → D.rt x H'
  | .exc x => ∀ B' H' O' σ' c dx, Step B H O B' H' O' → Con G.K B' H' σ' r' O' → Bor r σ r' σ' → XnR G.K G.mg x c dx H' → W c dx σ' H'
/-- a statement's meaning from a state, with its ends -/
def AtS (G : Ct2) (W : WX) (m : S) (B : Hp) (r : Ro) (O : Addr → Prop) (σ : L2.St) (H : Hp) (D : Ends) : Prop :=
  Con G.K B H σ r O ∧ ∃ o r', m r = some (o, r') ∧ PostS G W B r O σ H D r' o
def tS (G : Ct2) (W : WX) (m : S) : TS := fun D σ H => ∃ B r O, AtS G W m B r O σ H D
def DS (X : Cx) (W : WX) (st : Stmt) (m : S) : Prop := PS X st (tS (Cx.g X) W m)
def DSs (X : Cx) (W : WX) (st : List Stmt) (m : S) : Prop := PSs X st (tS (Cx.g X) W m)
theorem pss_weak {X : Cx} {e : List Stmt} {t t' : TS} (h : PSs X e t) (w : ∀ D σ H, t' D σ H → t D σ H) : PSs X e t' := ⟨fun pins s σ H D I q => h.run pins s σ H D I (w D σ H q)⟩
section
variable {X : Cx} {W : WX} {G : Ct2}
theorem tS.of {m : S} {B : Hp} {r : Ro} {O : Addr → Prop} {σ : L2.St} {H : Hp} {D : Ends} (h : AtS G W m B r O σ H D) : tS G W m D σ H := ⟨B, r, O, h⟩
/-- ahead of a statement something else went -/
theorem AtS.after {m : S} {B B1 : Hp} {r r1 : Ro} {O O1 : Addr → Prop} {σ σ1 : L2.St} {H H1 : Hp} {D : Ends} {o : SO} {r' : Ro} (s1 : Step B H O B1 H1 O1) (c1 : Con G.K B1 H1 σ1 r1 O1) (b1 : Bor r σ r1 σ1) (e : m r1 = some (o, r'))
    (p : PostS G W B r O σ H D r' o) : AtS G W m B1 r1 O1 σ1 H1 D := by
  refine ⟨c1, o, r', e, ?_⟩
  cases o with
  | nx => exact fun B' H' O' σ' s c b => p B' H' O' σ' (s1.trans s) c (b1.trans b)
  | brk => exact fun B' H' O' σ' s c b => p B' H' O' σ' (s1.trans s) c (b1.trans b)
  | cnt => exact fun B' H' O' σ' s c b => p B' H' O' σ' (s1.trans s) c (b1.trans b)
  | ret v => exact fun B' H' O' σ' x s c b y => p B' H' O' σ' x (s1.trans s) c (b1.trans b) (later_rV (G := G) H H1 B' H' O' σ' v x s1.live y)
  | rets i => exact fun B' H' O' σ' x s c b y => p B' H' O' σ' x (s1.trans s) c (b1.trans b) y
  | exc x => exact fun B' H' O' σ' k dx s c b y => p B' H' O' σ' k dx (s1.trans s) c (b1.trans b) y
theorem AtS.seq {a b : S} {B : Hp} {r : Ro} {O : Addr → Prop} {σ : L2.St} {H : Hp} {D : Ends} (h : AtS G W (sSeq a b) B r O σ H D) : AtS G W a B r O σ H { D with nx := tS G W b D } := by
  obtain ⟨c, o, r', e, p⟩ := h
  refine ⟨c, ?_⟩
  unfold sSeq at e
  cases q : a r with
  | none => rw [q] at e; cases e
  | some z =>
    obtain ⟨o1, r1⟩ := z
    rw [q] at e
    refine ⟨o1, r1, rfl, ?_⟩
    cases o1 with
    | nx => exact fun B1 H1 O1 σ1 s1 c1 b1 => tS.of (AtS.after s1 c1 b1 e p)
    | brk => cases e; exact p
    | cnt => cases e; exact p
    | ret v => cases e; exact p
    | rets i => cases e; exact p
    | exc x => cases e; exact p
/-- an expression ahead -/
theorem AtS.ex {α β : Type} {m : M α} {k : α → S} {R : Rl α β} {B : Hp} {r : Ro} {O : Addr → Prop} {σ : L2.St} {H : Hp} {D : Ends} (h : AtS G W (sEx m k) B r O σ H D) :
    At G W m R B r O σ H fun y H1 => ∃ a B1 r1 O1, Step B H O B1 H1 O1 ∧ Bor r σ r1 σ ∧ R H B1 H1 O1 σ a y ∧ Con G.K B1 H1 σ r1 O1 ∧ ∃ o r', k a r1 = some (o, r') ∧ PostS G W B r O σ H D r' o := by
  obtain ⟨c, o, r', e, p⟩ := h
  refine ⟨c, ?_⟩
  unfold sEx at e
  cases q : m r with
  | none => rw [q] at e; cases e
  | some z =>
    obtain ⟨o1, r1⟩ := z
    rw [q] at e
    refine ⟨o1, r1, rfl, ?_⟩
    cases o1 with
    | ok a => exact fun B1 H1 O1 y s1 c1 b1 x1 => ⟨a, B1, r1, O1, s1, b1, x1, c1, o, r', e, p⟩
    | exc x =>
      cases e
      exact fun B1 H1 O1 k dx s1 c1 b1 x1 => p B1 H1 O1 σ k dx s1 c1 b1 x1
theorem dss_nil : DSs X W [] sNx := pss_weak pss_nil fun D σ H ⟨B, r, O, c, o, r', e, p⟩ => by
  cases e
  exact p B H O σ .refl c .refl
theorem dss_cons {st : Stmt} {sts : List Stmt} {a b : S} (h : DS X W st a) (t : DSs X W sts b) : DSs X W (st :: sts) (sSeq a b) := pss_weak (pss_cons h t) fun D σ H ⟨B, r, O, h⟩ => tS.of h.seq
theorem dss_one {st : Stmt} {a : S} (h : DS X W st a) : DSs X W [st] a := pss_one h
theorem ds_ret {e : Expr} {pos : Pos} {m : M RV} (h : DE X W e m) : DS X W (.Return (some e) pos) (sRet m) := ps_weak (ps_ret h) fun D σ H ⟨B, r, O, h⟩ => by
  refine tG.of (h.ex.mono ?_)
  rintro y H1 ⟨v, B1, r1, O1, s1, b1, x1, c1, o, r', e, p⟩
  cases e
  exact p B1 H1 O1 σ y s1 c1 b1 x1
theorem ds_if {c : Expr} {a b : List Stmt} {pos : Pos} {t : M Bool} {m n : S} (hc : DB X W c t) (ha : DSs X W a m) (hb : DSs X W b n) : DS X W (.If c a b pos) (sIf t m n) := ps_weak (ps_if hc ha hb) fun D σ H ⟨B, r, O, h⟩ => by
  refine tG.of (h.ex.mono ?_)
  rintro y H1 ⟨v, B1, r1, O1, s1, b1, x1, c1, o, r', e, p⟩
  cases x1
  cases y with
  | true => exact iteT (tS.of (AtS.after s1 c1 b1 e p))
  | false => exact iteF (tS.of (AtS.after s1 c1 b1 e p))
theorem ds_expr {e : Expr} {pos : Pos} {m : M RV} (h : DE X W e m) (hs : swapsWith e none pos.line X.env = pure false := by rfl) : DS X W (.Expr e pos) (sDrop m) := ps_weak (ps_expr h hs) fun D σ H ⟨B, r, O, h⟩ => by
  refine tG.of (h.ex.mono ?_)
  rintro y H1 ⟨v, B1, r1, O1, s1, b1, x1, c1, o, r', e, p⟩
  cases e
  exact p B1 H1 O1 σ s1 c1 b1
/-- the slot i gets a result -/
theorem put_ok {K : PySem.W.Frag} {B H0 H : Hp} {σ : L2.St} {r r' : Ro} {O : Addr → Prop} {i : Nat} {v : RV} {x : V} {o : SO} (c : Con K B H σ r O) (e : putSl i v r = some (o, r')) (h : RvR K H0 B H O v x) (live : ∀ p, H0 p ≠ none → H p ≠ none) :
    o = .nx ∧ ∃ O', Con K B H (σ.set i (some x)) r' O' ∧ Bor r σ r' (σ.set i (some x)) ∧ ∀ a, O' a → O a ∨ H0 a = none := by
  unfold putSl at e
  split at e
  · cases e
  · rename_i y hy
    split at e
    · cases e
    · rename_i np
      have hi : i < σ.length := by
        rw [← c.len]
        exact (List.getElem?_eq_some_iff.mp hy).1
      have bor : ∀ z, Bor r σ (r.set i z) (σ.set i (some x)) := fun z j w hw pw => by
        have hj : j ≠ i := fun e => by
          subst e
          rw [hy] at hw; cases hw
          cases y <;> exact np pw
        exact ⟨⟨w, by rw [List.getElem?_set_ne (Ne.symm hj)]; exact hw, pw⟩, List.getElem?_set_ne (Ne.symm hj)⟩
      cases v with
      | val d =>
        cases e
        exact ⟨rfl, O, c.setF hi h, bor _, fun a h => .inl h⟩
      | new ct =>
        have e' : (∀ rows, ct = .ll rows → noAl r i = true) ∧ o = .nx ∧ r' = r.set i (.own false ct) := by
          cases ct with
          | ll rows =>
            simp only at e
            split at e
            · rename_i q; cases e; exact ⟨fun _ _ => q, rfl, rfl⟩
            · cases e
          | _ => cases e; exact ⟨fun _ z => (by cases z), rfl, rfl⟩
        obtain ⟨hal, rfl, rfl⟩ := e'
        obtain ⟨F, hF, c'⟩ := c.setN (b := false) hi h hal
        exact ⟨rfl, _, c', bor _, fun a h => h.elim .inl fun h => .inr (hF a h).1⟩
theorem put_step {B H B1 H1 : Hp} {O O1 O' : Addr → Prop} (s : Step B H O B1 H1 O1) (h : ∀ a, O' a → O1 a ∨ H a = none) : Step B H O B1 H1 O' :=
  ⟨s.sB, s.keep, s.live, s.nB, fun a z => (h a z).elim (s.nO a) .inr⟩
theorem ds_setG {st : Stmt} {i : Nat} {m : M RV} (h : PS X st (tAsg (tG (Cx.g X) W m (rV (Cx.g X))) (gName i))) : DS X W st (sSet i m) := ps_weak h fun D σ H ⟨B, r, O, h⟩ => by
  refine tG.of (h.ex.mono ?_)
  rintro y H1 ⟨v, B1, r1, O1, s1, b1, x1, c1, o, r', e, p⟩
  obtain ⟨rfl, O2, c2, b2, h2⟩ := put_ok c1 e x1 s1.live
  exact p B1 H1 O2 _ (put_step s1 h2) c2 (b1.trans b2)
/-- name = e -/
theorem ds_set {i : Nat} {x : Str} {e : Expr} {pos pos' : Pos} {m : M RV} (hN : X.N.Nodup) (hi : X.N[i]? = some x) (hx : Loc X.env.scope x) (he : DE X W e m) (hs : swapsWith e (some (.Name x pos')) pos.line X.env = pure false := by rfl)
    (hf : X.fn x = true ∨ X.env.scope.names.lookup x = some .local := by first | exact .inl rfl | exact .inr rfl | assumption) : DS X W (.Assign [.Name x pos'] e pos) (sSet i m) := ds_setG (ps_set hN hi hx he hs hf)
end
end DL
end

section
namespace DL
open PySem
def forS (set : D → S) (body : S) : List D → S
  | [] => sNx
  | d :: ds => fun r => match set d r with
    | some (.nx, r1) => match body r1 with
      | some (.nx, r2) => forS set body ds r2
      | some (.cnt, r2) => forS set body ds r2
      | some (.brk, r2) => some (.nx, r2)
      | z => z
    | _ => none
def sFor (mi : M (List D)) (set : D → S) (body : S) : S := sEx mi (forS set body)
/-- several targets -/
def sets : List (D → S) → List D → S
  | [], [] => sNx
  | f :: fs, d :: ds => sSeq (f d) (sets fs ds)
  | _, _ => fun _ => none
def setN (i : Nat) : D → S := fun d => putSl i (.val d)
def setT (fs : List (D → S)) : D → S
  | .tuple ds => sets fs ds
  | _ => fun _ => none
/-- a comprehension's own names are forgotten -/
def wipeR (r : Ro) : List Nat → Ro
  | [] => r
  | v :: vs => (wipeR r vs).set v .non
def anyPin (r : Ro) (vs : List Nat) : Bool := vs.any fun i => match r[i]? with
  | some x => putSl.pinnedB x
  | none => false
def lcM (vs : List Nat) (set : D → S) (t : M Bool) (e : M RV) : List D → List D → Ro → Option (List D × Ro)
  | [], acc, r => some (acc, r)
  | d :: ds, acc, r => match set d r with
    | some (.nx, r1) => match t r1 with
      | some (.ok true, r2) => match mFz e r2 with
        | some (.ok x, r3) => if acc.length < lineD then lcM vs set t e ds (acc ++ [x]) (wipeR r3 vs) else none
        | _ => none
      | some (.ok false, r2) => lcM vs set t e ds acc (wipeR r2 vs)
      | _ => none
    | _ => none
def mLc (vs : List Nat) (mi : M (List D)) (set : D → S) (t : M Bool) (e : M RV) : M RV := mi.bind fun ds => fun r =>
  if anyPin r vs then none else (lcM vs set t e ds [] (wipeR r vs)).map fun p => (.ok (.new (.lst p.1)), p.2)
/-- what is walked -/
def mRow (m : M RV) : M (List D) := (mFz m).bind fun d => M.of (rowOf d)
def rng (lo hi : Int) : List D := (List.range (hi - lo).toNat).map fun i => .int (lo + (i : Nat))
def okR (i : Int) : Bool := decide (-(2 ^ 62) ≤ i) && decide (i < 2 ^ 62)
def gRng1 : List Rs → Option (List D)
  | [.fz (.int j)] => if okR j then some (rng 0 j) else none
  | _ => none
def mOpL (g : List Rs → Option (List D)) (ms : List (M AV)) : M (List D) := (oL ms).bind fun as => fun r => match looks2 r as with
  | none => none
  | some xs => (g xs).map fun v => (.ok v, r)
def mYes : M Bool := M.ret true
end DL
end

section
namespace DL
open PySem PySem.Spec PyProof.Rows L2
/-- a pair that a walk has just made: its items alone are data -/
def Dw (K : PySem.W.Frag) (B : Hp) (v : V) (d : D) : Prop := ∃ a xs ds, v = .ref a ∧ d = .tuple ds ∧ SqT K B a xs ∧ DqAll K B xs ds
/-- the iterator yields the items ds, as long as what stood still stands -/
structure Serves (K : PySem.W.Frag) (lo : Bool) (J : It) (B0 : Hp) (ds : List D) : Prop where
  stop : ∀ H, Same B0 H → J.stop ds.length H
  go : ∀ i H, i < ds.length → Same B0 H → J.go i H
  yld : ∀ i H x H' d, ds[i]? = some d → Same B0 H → J.yld i H x H' → ∀ B, Same B0 B → Same B H → (H' = H ∧ Dq K B x d) ∨ (lo = true ∧ ∃ T vs, H T = none ∧ H' = upd H T (.tup vs) ∧ Dw K (upd B T (.tup vs)) x d)
def rI (G : Ct2) (lo : Bool) : Rl (List D) It := fun _ B' _ _ _ ds J => Serves G.K lo J B' ds
theorem later_rI {G : Ct2} {lo : Bool} : Later (rI G lo) := fun _ _ _ _ _ _ _ _ _ h => h
def DI (X : Cx) (W : WX) (lo : Bool) (tg iter : Expr) (m : M (List D)) : Prop := PI X tg iter (tG (Cx.g X) W m (rI (Cx.g X) lo))
theorem pi_weak {X : Cx} {tg e : Expr} {t t' : TI} (h : PI X tg e t) (w : ∀ σ H Q, t' σ H Q → t σ H Q) : PI X tg e t' := ⟨fun pins s σ H Q I q => h.run pins s σ H Q I (w σ H Q q)⟩
/-- a target's store of data: only the slots ix change -/
def gD (K : PySem.W.Frag) (lo : Bool) (ix : List Nat) (set : D → S) : TG := fun v σ H Q => ∃ B r O d r', Con K B H σ r O ∧ (Dq K B v d ∨ (lo = true ∧ Dw K B v d)) ∧ set d r = some (.nx, r') ∧
  ∀ σ', Con K B H σ' r' O → Bor r σ r' σ' → (∀ j : Nat, j ∉ ix → σ'[j]? = σ[j]?) → σ'.length = σ.length → Q σ' H
def DG (X : Cx) (lo : Bool) (tg : Expr) (ix : List Nat) (set : D → S) : Prop := PG X tg (gD X.K lo ix set)
theorem pg_weak {X : Cx} {e : Expr} {t t' : TG} (h : PG X e t) (w : ∀ v σ H Q, t' v σ H Q → t v σ H Q) : PG X e t' := ⟨fun pins s σ H v u Q I r q => h.run pins s σ H v u Q I r (w v σ H Q q)⟩
theorem pgs_weak {X : Cx} {e : List Expr} {t t' : TGs} (h : PGs X e t) (w : ∀ v σ H Q, t' v σ H Q → t v σ H Q) : PGs X e t' := ⟨fun pins s σ H v u Q I r q => h.run pins s σ H v u Q I r (w v σ H Q q)⟩
theorem dg_name {X : Cx} {i : Nat} {x : Str} {pos : Pos} (hN : X.N.Nodup) (hi : X.N[i]? = some x) (hx : Loc X.env.scope x) (hf : X.fn x = true ∨ X.env.scope.names.lookup x = some .local := by first | exact .inl rfl | exact .inr rfl | assumption) : DG X false (.Name x pos) [i] (setN i) :=
  pg_weak (pg_name hN hi hx hf) fun v σ H Q ⟨B, r, O, d, r', c, h, e, q⟩ => by
    have h : Dq X.K B v d := h.elim id fun z => nomatch z.1
    have e' : putSl i (.val d) r = some (.nx, r') := e
    unfold putSl at e'
    split at e'
    · cases e'
    · rename_i y hy
      split at e'
      · cases e'
      · rename_i np
        cases e'
        have hi : i < σ.length := by rw [← c.len]; exact (List.getElem?_eq_some_iff.mp hy).1
        refine q _ (c.setF hi h) (fun j w hw pw => ?_) (fun j hj => List.getElem?_set_ne (fun e => hj (by simp [e]))) List.length_set
        have hj : j ≠ i := fun e => by
          subst e
          rw [hy] at hw; cases hw
          cases y <;> exact np pw
        exact ⟨⟨w, by rw [List.getElem?_set_ne (Ne.symm hj)]; exact hw, pw⟩, List.getElem?_set_ne (Ne.symm hj)⟩
def gDs (K : PySem.W.Frag) (ix : List Nat) (fs : List (D → S)) : TGs := fun vs σ H Q => ∃ B r O ds r', Con K B H σ r O ∧ DqAll K B vs ds ∧ sets fs ds r = some (.nx, r') ∧
  ∀ σ', Con K B H σ' r' O → Bor r σ r' σ' → (∀ j : Nat, j ∉ ix → σ'[j]? = σ[j]?) → σ'.length = σ.length → Q σ' H
def DGs (X : Cx) (tgs : List Expr) (ix : List Nat) (fs : List (D → S)) : Prop := PGs X tgs (gDs X.K ix fs)
theorem dgs_nil {X : Cx} : DGs X [] [] [] := pgs_weak pgs_nil fun v σ H Q ⟨B, r, O, ds, r', c, h, e, q⟩ => by
  cases h with
  | nil =>
    cases e
    exact ⟨rfl, q σ c .refl (fun _ _ => rfl) rfl⟩
  | cons _ _ => cases e
theorem dgs_cons {X : Cx} {t : Expr} {ts : List Expr} {ix jx : List Nat} {f : D → S} {fs : List (D → S)} (h1 : DG X false t ix f) (h2 : DGs X ts jx fs) (hs : List.map (fun x => x.snd) (assignEach (t :: ts) X.env) = assign t X.env :: List.map (fun x => x.snd) (assignEach ts X.env) := by rfl) : DGs X (t :: ts) (ix ++ jx) (f :: fs) := pgs_weak (pgs_cons h1 h2 hs) fun v σ H Q ⟨B, r, O, ds, r', c, h, e, q⟩ => by
  cases h with
  | nil => cases e
  | @cons v vs d ds hd hds =>
    have e' : sSeq (f d) (sets fs ds) r = some (.nx, r') := e
    unfold sSeq at e'
    cases q1 : f d r with
    | none => rw [q1] at e'; cases e'
    | some z =>
      obtain ⟨o1, r1⟩ := z
      rw [q1] at e'
      cases o1 with
      | nx =>
        refine ⟨v, vs, rfl, B, r, O, d, r1, c, .inl hd, q1, fun σ1 c1 b1 k1 l1 => ⟨B, r1, O, ds, r', c1, hds, e', fun σ2 c2 b2 k2 l2 => q σ2 c2 (b1.trans b2) (fun j hj => ?_) (l2.trans l1)⟩⟩
        simp only [List.mem_append, not_or] at hj
        rw [k2 j hj.2, k1 j hj.1]
      | _ => cases e'
theorem sets_len : ∀ {fs : List (D → S)} {ds : List D} {r r' : Ro} {o : SO}, sets fs ds r = some (o, r') → o = .nx → ds.length = fs.length
  | [], [], _, _, _, _, _ => rfl
  | [], _ :: _, _, _, _, e, _ => by cases e
  | _ :: _, [], _, _, _, e, _ => by cases e
  | f :: fs, d :: ds, r, r', o, e, ho => by
    have e' : sSeq (f d) (sets fs ds) r = some (o, r') := e
    unfold sSeq at e'
    split at e'
    · rename_i r1 q
      rw [List.length_cons, List.length_cons, sets_len e' ho]
    · rename_i n
      subst ho
      exact (n r' e').elim
theorem dg_tup {X : Cx} {lo : Bool} {es : List Expr} {k : Nat} {pos : Pos} {ix : List Nat} {fs : List (D → S)} (hc : X.calm = true) (h : DGs X es ix fs)
    (hn : (assignEach es X.env).length = fs.length := by rfl) (hst : (assignEach es X.env).findIdx? (·.1) = none := by rfl) : DG X lo (.Tuple es k pos) ix (setT fs) := pg_weak (pg_tup hc h hn hst) fun v σ H Q ⟨B, r, O, d, r', c, hd, e, q⟩ => by
  cases d with
  | tuple ds =>
    obtain ⟨a, xs, rfl, hs, ha⟩ : ∃ a xs, v = .ref a ∧ SqT X.K B a xs ∧ DqAll X.K B xs ds := by
      rcases hd with hd | ⟨_, a, xs, es, rfl, e, h1, h2⟩
      · obtain ⟨a, xs, rfl, h1, h2⟩ := dp_tuple hd
        exact ⟨a, xs, rfl, h1.sq, h2⟩
      · cases e
        exact ⟨a, xs, rfl, h1, h2⟩
    have e' : sets fs ds r = some (.nx, r') := e
    exact ⟨a, xs, rfl, sqt_same c.sub hs, by rw [ha.length]; exact sets_len e' rfl, B, r, O, ds, r', c, ha, e', q⟩
  | _ => cases e
/-- a walk of a loop -/
theorem ds_for {lo : Bool} {tg iter : Expr} {body : List Stmt} {pos : Pos} {X : Cx} {W : WX} {mi : M (List D)} {ix : List Nat} {set : D → S} {mb : S} (hp : PassesOwn (model X.prog X.w) X.A X.env X.xe) (hc : X.calm = true) (hi : DI X W lo tg iter mi) (hg : DG X lo tg ix set) (hb : DSs X W body mb)
    (hs : ∀ x, foldedSetIterable iter X.env x = pure x := by intro _; rfl) : DS X W (.For tg iter body [] pos) (sFor mi set mb) := ps_weak (ps_for hp hc hi hg hb hs) fun D σ H ⟨B, r, O, h⟩ => by
  refine tG.of (h.ex.mono ?_)
  rintro J H1 ⟨ds, B1, r1, O1, s1, b1, x1, c1, o, r', e, p⟩
  refine ⟨fun i m σ' H' => m = ds.length - i ∧ i ≤ ds.length ∧ ∃ B' r2 O', Step B1 H1 O1 B' H' O' ∧ Con X.K B' H' σ' r2 O' ∧ Bor r1 σ r2 σ' ∧ forS set mb (ds.drop i) r2 = some (o, r'), ⟨ds.length, by simp, Nat.zero_le _, B1, r1, O1, .refl, c1, .refl, e⟩, ?_⟩
  rintro i m σ2 H2 ⟨rfl, hi2, B2, r2, O2, s2, c2, b2, e2⟩
  have sv : Serves X.K lo J B1 ds := x1
  have same : Same B1 H2 := s2.sB.trans c2.sub
  by_cases hlt : i < ds.length
  · refine .inr ⟨sv.go i H2 hlt same, fun σ' H' => i + 1 ≤ ds.length ∧ ∃ B' r2 O', Step B1 H1 O1 B' H' O' ∧ Con X.K B' H' σ' r2 O' ∧ Bor r1 σ r2 σ' ∧ forS set mb (ds.drop (i + 1)) r2 = some (o, r'), fun σ' H' z => ⟨ds.length - (i + 1), by omega, rfl, z⟩, fun x H3 y => ?_⟩
    have ed : ds.drop i = ds[i] :: ds.drop (i + 1) := (List.drop_eq_getElem_cons hlt)
    rw [ed] at e2
    -- the item
    obtain ⟨B3, s3, c3, d3⟩ : ∃ B3, Step B2 H2 O2 B3 H3 O2 ∧ Con X.K B3 H3 σ2 r2 O2 ∧ (Dq X.K B3 x ds[i] ∨ (lo = true ∧ Dw X.K B3 x ds[i])) := by
      rcases sv.yld i H2 x H3 ds[i] (List.getElem?_eq_getElem hlt) same y B2 s2.sB c2.sub with ⟨rfl, d⟩ | ⟨hlo, T, vs, hT, rfl, d⟩
      · exact ⟨B2, .refl, c2, .inl d⟩
      · obtain ⟨c4, s4⟩ := c2.layF (o := .tup vs) hT
        exact ⟨_, s4, c4, .inr ⟨hlo, d⟩⟩
    simp only [forS] at e2
    cases q1 : set ds[i] r2 with
    | none => rw [q1] at e2; cases e2
    | some z1 =>
      obtain ⟨o1, r3⟩ := z1
      rw [q1] at e2
      cases o1 with
      | nx =>
        refine ⟨B3, r2, O2, ds[i], r3, c3, d3, q1, fun σ3 c4 b4 k4 l4 => ⟨B3, r3, O2, c4, ?_⟩⟩
        simp only at e2
        have s03 := s2.trans s3
        have b03 := b2.trans b4
        cases q2 : mb r3 with
        | none => rw [q2] at e2; cases e2
        | some z2 =>
          obtain ⟨o2, r4⟩ := z2
          rw [q2] at e2
          refine ⟨o2, r4, rfl, ?_⟩
          cases o2 with
          | nx => exact fun B' H' O' σ' s' c' b' => ⟨hlt, B', r4, O', s03.trans s', c', b03.trans b', e2⟩
          | cnt => exact fun B' H' O' σ' s' c' b' => ⟨hlt, B', r4, O', s03.trans s', c', b03.trans b', e2⟩
          | brk =>
            cases e2
            exact fun B' H' O' σ' s' c' b' => p B' H' O' σ' (s1.trans (s03.trans s')) c' (b1.trans (b03.trans b'))
          | ret v =>
            cases e2
            exact fun B' H' O' σ' x s' c' b' y => p B' H' O' σ' x (s1.trans (s03.trans s')) c' (b1.trans (b03.trans b')) (later_rV (G := Cx.g X) _ H3 B' H' O' σ' v x (fun a ha => (s03.live a) (s1.live a ha)) y)
          | rets j =>
            cases e2
            exact fun B' H' O' σ' x s' c' b' y => p B' H' O' σ' x (s1.trans (s03.trans s')) c' (b1.trans (b03.trans b')) y
          | exc ex =>
            cases e2
            exact fun B' H' O' σ' k dx s' c' b' y => p B' H' O' σ' k dx (s1.trans (s03.trans s')) c' (b1.trans (b03.trans b')) y
      | _ => cases e2
  · have ei : i = ds.length := by omega
    subst ei
    rw [List.drop_length] at e2
    cases e2
    exact .inl ⟨sv.stop H2 same, p B2 H2 O2 σ2 (s1.trans s2) c2 (b1.trans b2)⟩
end DL
end

section
namespace DL
open PySem PySem.Spec PyProof.Rows L2
theorem wipe_in {σ : L2.St} {i : Nat} {x : V} : ∀ {vs : List Nat}, i ∈ vs → (wipe σ vs)[i]? ≠ some (some x)
  | vs, h, e => (wipe_some e).2 h
theorem wipeR_len {r : Ro} : ∀ {vs : List Nat}, (wipeR r vs).length = r.length
  | [] => rfl
  | v :: vs => by
    show ((wipeR r vs).set v .non).length = _
    rw [List.length_set, wipeR_len]
theorem wipeR_out {r : Ro} {i : Nat} : ∀ {vs : List Nat}, i ∉ vs → (wipeR r vs)[i]? = r[i]?
  | [], _ => rfl
  | v :: vs, h => by
    simp only [List.mem_cons, not_or] at h
    show ((wipeR r vs).set v .non)[i]? = _
    rw [List.getElem?_set_ne (Ne.symm h.1), wipeR_out h.2]
theorem wipeR_in {r : Ro} {i : Nat} {x : Sl} : ∀ {vs : List Nat}, i ∈ vs → (wipeR r vs)[i]? = some x → x = .non
  | v :: vs, h, e => by
    have e : ((wipeR r vs).set v .non)[i]? = some x := e
    rcases get_set e with ⟨_, z⟩ | ⟨n, e⟩
    · exact z
    · rcases List.mem_cons.mp h with rfl | h
      · exact absurd rfl n
      · exact wipeR_in h e
/-- the slots vs are forgotten: they may stand as they like -/
theorem Con.wiped {K : PySem.W.Frag} {B H : Hp} {σ σ' : L2.St} {r : Ro} {O : Addr → Prop} (c : Con K B H σ r O) {vs : List Nat} (hl : σ'.length = σ.length) (hs : ∀ j : Nat, j ∉ vs → σ'[j]? = σ[j]?) : Con K B H σ' (wipeR r vs) O := by
  induction vs generalizing σ' with
  | nil =>
    have e : σ' = σ := List.ext_getElem? fun j => hs j (by simp)
    subst e
    exact c
  | cons v vs ih =>
    -- first all but v
    have c1 := ih (σ' := σ'.set v ((σ[v]?).getD none)) (by rw [List.length_set, hl]) fun j hj => by
      by_cases e : j = v
      · subst e
        by_cases hv : j < σ'.length
        · rw [List.getElem?_set_self hv]
          have : j < σ.length := by omega
          rw [List.getElem?_eq_getElem this]
          rfl
        · rw [List.getElem?_eq_none (by rw [List.length_set]; omega), List.getElem?_eq_none (by omega)]
      · rw [List.getElem?_set_ne (Ne.symm e)]
        exact hs j (by simp [e, hj])
    exact c1.replace (i := v) (x := .non) (by rw [List.length_set]) (fun j n => by rw [List.getElem?_set_ne (Ne.symm n)]) trivial (fun _ _ e => by cases e)
theorem bor_wipe {r : Ro} {σ σ' : L2.St} {vs : List Nat} (h : anyPin r vs = false) (hs : ∀ j : Nat, j ∉ vs → σ'[j]? = σ[j]?) : Bor r σ (wipeR r vs) σ' := fun i x hx px => by
  have hi : i ∉ vs := fun hm => by
    have : anyPin r vs = true := List.any_eq_true.mpr ⟨i, hm, by rw [hx]; cases x <;> exact px⟩
    rw [h] at this; cases this
  exact ⟨⟨x, by rw [wipeR_out hi]; exact hx, px⟩, hs i hi⟩
def DTs (X : Cx) (W : WX) (ifs : List Expr) (m : M Bool) : Prop := PTs X ifs (tG (Cx.g X) W m rB)
theorem dts_nil {X : Cx} {W : WX} : DTs X W [] mYes := ⟨fun pins s σ H Q I ⟨B, r, O, h⟩ => pts_nil.run pins s σ H Q I (h.ret rfl)⟩
theorem dts_one {X : Cx} {W : WX} {c : Expr} {m : M Bool} (h : DB X W c m) : DTs X W [c] m := pts_one h
abbrev W0 : WX := fun _ _ _ _ => False
/-- a slot list without the comprehension's own names -/
def Clear (r : Ro) (vs : List Nat) : Prop := ∀ i ∈ vs, ∀ x, r[i]? = some x → x = Sl.non
theorem clear_wipe {r : Ro} {vs : List Nat} (h : Clear r vs) : wipeR r vs = r := by
  apply List.ext_getElem?
  intro j
  by_cases hj : j ∈ vs
  · cases q : r[j]? with
    | none => rw [List.getElem?_eq_none_iff] at q ⊢; rw [wipeR_len]; exact q
    | some x =>
      rw [h j hj x q]
      cases q2 : (wipeR r vs)[j]? with
      | none =>
        rw [List.getElem?_eq_none_iff, wipeR_len] at q2
        rw [List.getElem?_eq_none_iff.mpr q2] at q
        cases q
      | some y => rw [wipeR_in hj q2]
  · exact wipeR_out hj
theorem bor_wipe2 {r1 r4 : Ro} {σ σ2 σ' : L2.St} {vs : List Nat} (h : anyPin r1 vs = false) (b : Bor r1 σ r4 σ2) (hs : ∀ j : Nat, j ∉ vs → σ'[j]? = σ[j]?) : Bor r1 σ (wipeR r4 vs) σ' := fun i x hx px => by
  have hi : i ∉ vs := fun hm => by
    have : anyPin r1 vs = true := List.any_eq_true.mpr ⟨i, hm, by rw [hx]; cases x <;> exact px⟩
    rw [h] at this; cases this
  obtain ⟨⟨y, h1, h2⟩, h3⟩ := b i x hx px
  exact ⟨⟨y, by rw [wipeR_out hi]; exact h1, h2⟩, hs i hi⟩
section
variable {X : Cx} {W : WX}
theorem lc_read {lo : Bool} {mi : M (List D)} {vs ix : List Nat} {set : D → S} {t : M Bool} {me : M RV} (hix : ∀ j ∈ ix, j ∈ vs) {σ : L2.St} {H : Hp} {Q : VK} (h : tG (Cx.g X) W (mLc vs mi set t me) (rV (Cx.g X)) σ H Q) :
    tLc (tG (Cx.g X) W mi (rI (Cx.g X) lo)) (gD X.K lo ix set) (tG (Cx.g X) W0 t rB) (tG (Cx.g X) W0 me (rV (Cx.g X))) vs σ H Q := by
  obtain ⟨B, r, O, h⟩ := h
  refine tG.of ((h.bind later_rV (R := rI (Cx.g X) lo)).mono ?_)
  rintro J H1 ⟨ds, B1, r1, O1, s1, x1, c1, o, r', e, p⟩
  intro D hD
  have sv : Serves X.K lo J B1 ds := x1
  simp only at e
  split at e
  · cases e
  · rename_i np
    have np : anyPin r1 vs = false := by simpa using np
    cases q : lcM vs set t me ds [] (wipeR r1 vs) with
    | none => rw [q] at e; cases e
    | some z =>
      obtain ⟨xs, rf⟩ := z
      rw [q] at e
      cases e
      obtain ⟨bD, nD, c2, s2⟩ := c1.lay (o := .lst []) hD
      have wl := wipe_length σ vs
      have wo : ∀ j : Nat, j ∉ vs → (wipe σ vs)[j]? = σ[j]? := fun j hj => wipe_out hj
      refine ⟨fun i m H' => m = ds.length - i ∧ i ≤ ds.length ∧ ∃ B' r2 O' acc ad, Step B1 H1 O1 B' H' O' ∧ Con X.K B' H' (wipe σ vs) r2 O' ∧ Clear r2 vs ∧ Bor r1 σ r2 (wipe σ vs) ∧ H' D = some (.lst acc) ∧ DqAll X.K B' acc ad ∧ B' D = none ∧ ¬ O' D ∧ lcM vs set t me (ds.drop i) ad r2 = some (xs, rf),
        ⟨ds.length, by simp, Nat.zero_le _, B1, _, O1, [], [], s2, c2.wiped wl wo, fun i hi x hx => wipeR_in hi hx, bor_wipe np wo, upd_same, .nil, bD, nD, q⟩, ?_⟩
      rintro i m H2 ⟨rfl, hi2, B2, r2, O2, acc, ad, s3, c3, k3, b3, hA, hQ, bD2, nD2, e2⟩
      have same : Same B1 H2 := s3.sB.trans c3.sub
      by_cases hlt : i < ds.length
      · refine .inr ⟨sv.go i H2 hlt same, fun H' => i + 1 ≤ ds.length ∧ ∃ B' r2 O' acc ad, Step B1 H1 O1 B' H' O' ∧ Con X.K B' H' (wipe σ vs) r2 O' ∧ Clear r2 vs ∧ Bor r1 σ r2 (wipe σ vs) ∧ H' D = some (.lst acc) ∧ DqAll X.K B' acc ad ∧ B' D = none ∧ ¬ O' D ∧ lcM vs set t me (ds.drop (i + 1)) ad r2 = some (xs, rf),
          fun H' z => ⟨ds.length - (i + 1), by omega, rfl, z⟩, fun x H3 y => ?_⟩
        have ed : ds.drop i = ds[i] :: ds.drop (i + 1) := (List.drop_eq_getElem_cons hlt)
        rw [ed] at e2
        obtain ⟨B3, s4, c4, d4⟩ : ∃ B3, Step B2 H2 O2 B3 H3 O2 ∧ Con X.K B3 H3 (wipe σ vs) r2 O2 ∧ (Dq X.K B3 x ds[i] ∨ (lo = true ∧ Dw X.K B3 x ds[i])) := by
          rcases sv.yld i H2 x H3 ds[i] (List.getElem?_eq_getElem hlt) same y B2 s3.sB c3.sub with ⟨rfl, d⟩ | ⟨hlo, T, ws, hT, rfl, d⟩
          · exact ⟨B2, .refl, c3, .inl d⟩
          · obtain ⟨c5, s5⟩ := c3.layF (o := .tup ws) hT
            exact ⟨_, s5, c5, .inr ⟨hlo, d⟩⟩
        simp only [lcM] at e2
        cases q1 : set ds[i] r2 with
        | none => rw [q1] at e2; cases e2
        | some z1 =>
          obtain ⟨o1, r3⟩ := z1
          rw [q1] at e2
          cases o1 with
          | nx =>
            refine ⟨B3, r2, O2, ds[i], r3, c4, d4, q1, fun σ2 c5 b5 k5 l5 => ⟨?_, ?_⟩⟩
            · apply List.ext_getElem?
              intro j
              by_cases hj : j ∈ vs
              · by_cases hl : j < σ.length
                · have g : ∀ τ : L2.St, τ.length = σ.length → (wipe τ vs)[j]? = some none := fun τ hτ => by
                    cases qq : (wipe τ vs)[j]? with
                    | none => rw [List.getElem?_eq_none_iff, wipe_length] at qq; omega
                    | some w => cases w with
                      | none => rfl
                      | some w => exact absurd qq (wipe_in hj)
                  rw [g σ rfl, g σ2 (l5.trans wl)]
                · rw [List.getElem?_eq_none (by rw [wipe_length, l5, wl]; omega), List.getElem?_eq_none (by rw [wl]; omega)]
              · rw [wipe_out hj, wipe_out hj, k5 j (fun z => hj (hix j z)), wipe_out hj]
            · simp only at e2
              cases q2 : t r3 with
              | none => rw [q2] at e2; cases e2
              | some z2 =>
                obtain ⟨o2, r4⟩ := z2
                rw [q2] at e2
                refine ⟨B3, r3, O2, c5, o2, r4, q2, ?_⟩
                cases o2 with
                | exc x => cases e2
                | ok b =>
                  intro B5 H5 O5 b' s6 c6 b6 hb'
                  cases hb'
                  have s36 : Step B1 H1 O1 B5 H5 O5 := (s3.trans s4).trans s6
                  have hA3 : H3 D = some (.lst acc) := s4.keep D _ hA nD2
                  have bD3 : B3 D = none := s4.nB D (by rw [hA]; simp) nD2 bD2
                  have hA5 : H5 D = some (.lst acc) := s6.keep D _ hA3 nD2
                  have bD5 : B5 D = none := s6.nB D (by rw [hA3]; simp) nD2 bD3
                  have nD5 : ¬ O5 D := fun z => by
                    rcases s6.nO D z with z | z
                    · exact nD2 z
                    · rw [hA3] at z; cases z
                  cases b with
                  | false =>
                    exact iteF ⟨hlt, B5, wipeR r4 vs, O5, acc, ad, s36, c6.wiped (wl.trans (l5.trans wl).symm |>.trans rfl) fun j hj => (k5 j fun z => hj (hix j z)).symm, fun i hi x hx => wipeR_in hi hx, bor_wipe2 np (b3.trans (b5.trans b6)) wo, hA5, dqa_same' s4 s6 hQ, bD5, nD5, e2⟩
                  | true =>
                    simp only at e2
                    cases q3 : mFz me r4 with
                    | none => rw [q3] at e2; cases e2
                    | some z3 =>
                      obtain ⟨o3, r5⟩ := z3
                      rw [q3] at e2
                      cases o3 with
                      | exc x => cases e2
                      | ok d =>
                        simp only at e2
                        split at e2
                        · rename_i hz
                          refine iteT (tG.of (At.froz ⟨c6, .ok d, r5, q3, fun B6 H6 O6 y6 s7 c7 b7 d7 => ?_⟩))
                          have hA6 : H6 D = some (.lst acc) := s7.keep D _ hA5 nD5
                          have bD6 : B6 D = none := s7.nB D (by rw [hA5]; simp) nD5 bD5
                          have nD6 : ¬ O6 D := fun z => by
                            rcases s7.nO D z with z | z
                            · exact nD5 z
                            · rw [hA5] at z; cases z
                          have qa := dpa_same s7.sB (dqa_same' s4 s6 hQ)
                          refine ⟨acc, hA6, by rw [qa.length, ← line_eq]; exact hz, hlt, ?_⟩
                          -- the new list grows: it is nobody's
                          have c8 : Con X.K B6 (upd H6 D (.lst (acc ++ [y6]))) σ2 r5 O6 := c7.mono (Same.refl _) (fun a w ha => by
                            by_cases z : a = D
                            · subst z; rw [bD6] at ha; cases ha
                            · rw [upd_ne z]; exact c7.sub a w ha) (fun a ha => upd_ne (show a ≠ D from fun z => nD6 (by rw [← z]; exact ha))) c7.off
                          have s37 := s36.trans s7
                          have s9 : Step B1 H1 O1 B6 (upd H6 D (.lst (acc ++ [y6]))) O6 := ⟨s37.sB, fun a w ha na => by
                            rw [upd_ne (ne_of_none ha hD)]
                            exact s37.keep a w ha na, fun a ha => by
                            by_cases z : a = D
                            · subst z; rw [upd_same]; simp
                            · rw [upd_ne z]; exact s37.live a ha, s37.nB, s37.nO⟩
                          exact ⟨B6, wipeR r5 vs, O6, acc ++ [y6], ad ++ [d], s9, c8.wiped (wl.trans (l5.trans wl).symm |>.trans rfl) fun j hj => (k5 j fun z => hj (hix j z)).symm, fun i hi x hx => wipeR_in hi hx, bor_wipe2 np (b3.trans (b5.trans (b6.trans b7))) wo, upd_same, qa.append (.cons d7 .nil), bD6, nD6, e2⟩
                        · cases e2
          | _ => cases e2
      · have ei : i = ds.length := by omega
        subst ei
        rw [List.drop_length] at e2
        cases e2
        refine .inl ⟨sv.stop H2 same, p B2 H2 O2 (.ref D) s3 ?_ (fun i x hx px => ⟨(b3 i x hx px).1, rfl⟩) ⟨D, [D], rfl, ⟨rfl, acc, hA, hQ⟩, fun a ha => ?_⟩⟩
        · have c9 := c3.wiped (σ' := σ) wl.symm fun j hj => (wo j hj).symm
          rw [clear_wipe k3] at c9
          exact c9
        · simp at ha
          subst ha
          exact ⟨hD, bD2, nD2⟩
where
  dqa_same' {K : PySem.W.Frag} {B2 H2 B3 H3 B5 H5 : Hp} {O2 O3 O5 : Addr → Prop} {acc : List V} {ad : List D} (s4 : Step B2 H2 O2 B3 H3 O3) (s6 : Step B3 H3 O3 B5 H5 O5) (h : DqAll K B2 acc ad) : DqAll K B5 acc ad := dpa_same s6.sB (dpa_same s4.sB h)
/-- [elt for target in iter if ..] -/
theorem de_lc {lo : Bool} {elt tg iter : Expr} {ifs : List Expr} {scope : Scope} {own : List (Str × Nat)} {pos : Pos} {mi : M (List D)} {ix : List Nat} {set : D → S} {t : M Bool} {me : M RV} (hc : X.calm = true) (hN : X.N.Nodup) (hi : DI X W lo tg iter mi) (ok : BlkOk X.N X.env.scope scope own)
    (hg : ∀ (s : Shared) (H : Hp) (C : Addr) (cl : List (Str × Addr)) (fp : List Addr), DG (X.blk s H scope (compEnvC scope cl C X.env) fp) lo tg ix set) (ht : ∀ (s : Shared) (H : Hp) (C : Addr) (cl : List (Str × Addr)) (fp : List Addr), DTs (X.blk s H scope (compEnvC scope cl C X.env) fp) W0 ifs t)
    (he : ∀ (s : Shared) (H : Hp) (C : Addr) (cl : List (Str × Addr)) (fp : List Addr), DE (X.blk s H scope (compEnvC scope cl C X.env) fp) W0 elt me) (hix : ∀ j ∈ ix, j ∈ own.map (·.2)) (hs : ∀ x, foldedSetIterable iter X.env x = pure x := by intro _; rfl) :
    DE X W (.ListComp elt [⟨tg, iter, ifs, 0⟩] scope pos) (mLc (own.map (·.2)) mi set t me) :=
  pe_weak (pe_lc (g := gD X.K lo ix set) (tt := tG (Cx.g X) W0 t rB) (te := tG (Cx.g X) W0 me (rV (Cx.g X))) hc hN hi ok hg ht he hs) fun σ H Q h => lc_read hix h
/-- name = [..] on one line -/
theorem ds_setLc {lo : Bool} {i : Nat} {y : Str} {py : Pos} {elt tg iter : Expr} {ifs : List Expr} {scope : Scope} {own : List (Str × Nat)} {pos spos : Pos} {mi : M (List D)} {ix : List Nat} {set : D → S} {t : M Bool} {me : M RV} (hc : X.calm = true) (hN : X.N.Nodup) (hy : X.N[i]? = some y) (hyl : X.env.scope.names.lookup y = some .local)
    (hsw : swapsWith (.ListComp elt [⟨tg, iter, ifs, 0⟩] scope pos) (some (.Name y py)) spos.line X.env = pure true) (hi : DI X W lo tg iter mi) (ok : BlkOk X.N X.env.scope scope own)
    (hg : ∀ (s : Shared) (H : Hp) (C : Addr) (cl : List (Str × Addr)) (fp : List Addr), DG (X.blk s H scope (compEnvC scope cl C X.env) fp) lo tg ix set) (ht : ∀ (s : Shared) (H : Hp) (C : Addr) (cl : List (Str × Addr)) (fp : List Addr), DTs (X.blk s H scope (compEnvC scope cl C X.env) fp) W0 ifs t)
    (he : ∀ (s : Shared) (H : Hp) (C : Addr) (cl : List (Str × Addr)) (fp : List Addr), DE (X.blk s H scope (compEnvC scope cl C X.env) fp) W0 elt me) (hix : ∀ j ∈ ix, j ∈ own.map (·.2)) (hs : ∀ x, foldedSetIterable iter X.env x = pure x := by intro _; rfl) :
    DS X W (.Assign [.Name y py] (.ListComp elt [⟨tg, iter, ifs, 0⟩] scope pos) spos) (sSet i (mLc (own.map (·.2)) mi set t me)) :=
  ds_setG (ps_weak (ps_setLc (g := gD X.K lo ix set) (tt := tG (Cx.g X) W0 t rB) (te := tG (Cx.g X) W0 me (rV (Cx.g X))) hc hN hy hyl hsw hi ok hg ht he hs) fun D σ H h => lc_read hix h)
theorem serves_list {lo : Bool} {K : PySem.W.Frag} {B0 : Hp} {a : Addr} {xs : List V} {ds : List D} (h : SqL K B0 a xs) (d : DqAll K B0 xs ds) : Serves K lo (Itl K a) B0 ds := by
  refine ⟨fun H s => ⟨xs, s.seq h, by rw [d.length]; exact Nat.le_refl _⟩, fun i H hi s => ?_, fun i H x H' e he s y B b1 b2 => ?_⟩
  · rw [← d.length] at hi
    exact ⟨xs, xs[i], s.seq h, List.getElem?_eq_getElem hi⟩
  · obtain ⟨rfl, y⟩ := y
    obtain ⟨v, h1, h2⟩ := d.get he
    have := y xs (s.seq h)
    rw [h1] at this; cases this
    exact .inl ⟨rfl, dp_same b1 h2⟩
theorem serves_tup {lo : Bool} {K : PySem.W.Frag} {B0 : Hp} {a : Addr} {xs : List V} {ds : List D} (h : SqT K B0 a xs) (d : DqAll K B0 xs ds) : Serves K lo (Itt K a) B0 ds := by
  refine ⟨fun H s => ⟨xs, sqt_same s h, by rw [d.length]; exact Nat.le_refl _⟩, fun i H hi s => ?_, fun i H x H' e he s y B b1 b2 => ?_⟩
  · rw [← d.length] at hi
    exact ⟨xs, xs[i], sqt_same s h, List.getElem?_eq_getElem hi⟩
  · obtain ⟨rfl, y⟩ := y
    obtain ⟨v, h1, h2⟩ := d.get he
    have := y xs (sqt_same s h)
    rw [h1] at this; cases this
    exact .inl ⟨rfl, dp_same b1 h2⟩
theorem serves_range {lb : Bool} {K : PySem.W.Frag} {B0 : Hp} {lo hi : Int} : Serves K lb (Itr lo (hi - lo).toNat) B0 (rng lo hi) := by
  have hl : (rng lo hi).length = (hi - lo).toNat := by simp [rng]
  refine ⟨fun H s => by show (hi - lo).toNat ≤ _; rw [hl]; exact Nat.le_refl _, fun i H h s => by rw [hl] at h; exact h, fun i H x H' e he s y B b1 b2 => ?_⟩
  obtain ⟨rfl, rfl⟩ := y
  have hi' : i < (hi - lo).toNat := by
    rw [← hl]; exact (List.getElem?_eq_some_iff.mp he).1
  have : e = .int (lo + i) := by
    simp only [rng, List.getElem?_map, List.getElem?_range hi', Option.map_some, Option.some.injEq] at he
    exact he.symm
  subst this
  exact .inl ⟨rfl, .int _⟩
/-- a list or a tuple -/
theorem pi_seq {tg l : Expr} {tl : TE} (hl : PE X l tl) : PI X tg l (fun σ H R => tl σ H fun x H1 => (∃ a, x = .ref a ∧ (∃ xs, SqL X.K H1 a xs) ∧ R (Itl X.K a) H1) ∨ ∃ a, x = .ref a ∧ (∃ xs, SqT X.K H1 a xs) ∧ R (Itt X.K a) H1) := by
  refine ⟨fun pins s σ H R I h => ?_⟩
  refine thn (hl.run pins s σ H _ I h) fun v s1 ⟨x, H1, I1, r1, q1⟩ => ?_
  rcases q1 with ⟨a, e, ⟨xs, hq⟩, q⟩ | ⟨a, e, ⟨xs, hq⟩, q⟩
  · subst e
    cases r1
    obtain ⟨its, rv, p, hz⟩ := I1.list hq
    refine wpAny_pyIter_list p.isList ?_
    refine ⟨s1.heap.objs.size, [s1.heap.objs.size], _, _, H1, rfl, I1.kept (t' := s1.toks) fun b o e => Heap.get?_push_of_some _ e, turn_list a _, ⟨_, Heap.get?_push_size _ rfl, rfl, rfl⟩, fun b hb => ?_, q⟩
    have e : b = s1.heap.objs.size := by simpa using hb
    subst e
    exact I1.fpOk (Nat.le_refl _) (I1.hok.fresh (Nat.le_refl _))
  · subst e
    cases r1
    obtain ⟨its, rv, p, hz⟩ := I1.tuple hq
    refine wpAny_pyIter_tuple (show s1.heap.IsTuple a its.toArray from p) ?_
    refine ⟨s1.heap.objs.size, [s1.heap.objs.size], _, _, H1, rfl, I1.kept (t' := s1.toks) fun b o e => Heap.get?_push_of_some _ e, turn_tuple a _, ⟨_, Heap.get?_push_size _ rfl, rfl, rfl⟩, fun b hb => ?_, q⟩
    have e : b = s1.heap.objs.size := by simpa using hb
    subst e
    exact I1.fpOk (Nat.le_refl _) (I1.hok.fresh (Nat.le_refl _))
theorem di_seq {lo : Bool} {tg e : Expr} {m : M RV} (h : DE X W e m) : DI X W lo tg e (mRow m) := pi_weak (pi_seq h) fun σ H R ⟨B, r, O, h⟩ => by
  refine tG.of (At.froz ((h.bind later_rI (R := rD (Cx.g X))).mono ?_))
  rintro v H1 ⟨d, B1, r1, O1, s1, dp, h1⟩
  have dp : Dq X.K B1 v d := dp
  obtain ⟨c, o, r', e, p⟩ := h1
  cases q : rowOf d with
  | none => rw [q] at e; cases e
  | some ds =>
    rw [q] at e
    cases e
    rcases row_of q with rfl | rfl
    · obtain ⟨a, xs, rfl, hs, ha⟩ := dp_list dp
      exact .inl ⟨a, rfl, ⟨xs, .of (c.sub _ _ hs)⟩, p B1 H1 O1 _ .refl c .refl (serves_list (.of hs) ha)⟩
    · obtain ⟨a, xs, rfl, hs, ha⟩ := dp_tuple dp
      exact .inr ⟨a, rfl, ⟨xs, (tup_same c.sub hs).sq⟩, p B1 H1 O1 _ .refl c .refl (serves_tup hs.sq ha)⟩
end
end DL
end

section
namespace DL
open PySem PySem.Spec PyProof.Rows L2
section
variable {K : PySem.W.Frag} {mg : Str → Option Value} {B H B' H' : Hp} {xs : List Rs} {vs : List V} {O O' : Addr → Prop}
theorem start_get {N : List Str} {k : Nat} (h : k < vs.length) : (start N vs)[k]? = (vs.map some)[k]? := by
  unfold L2.start
  rw [List.getElem?_append_left (by simpa using h)]
theorem pad_get {r : Ro} {m k : Nat} {x : Sl} (h : (r ++ List.replicate m Sl.non)[k]? = some x) (n : x ≠ .non) : r[k]? = some x := by
  by_cases hk : k < r.length
  · rw [List.getElem?_append_left hk] at h; exact h
  · rw [List.getElem?_append_right (by omega), List.getElem?_replicate] at h
    split at h
    · cases h; exact absurd rfl n
    · cases h
theorem Con.pad {N : List Str} (c : Con K B H (vs.map some) (xs.map toSl) O) (hN : vs.length ≤ N.length) : Con K B H (start N vs) (xs.map toSl ++ List.replicate (N.length - vs.length) .non) O := by
  have hl : xs.length = vs.length := by have := c.len; simpa using this
  have hs : ∀ (k : Nat) (x : Sl), x ≠ .non → (xs.map toSl ++ List.replicate (N.length - vs.length) Sl.non)[k]? = some x → (xs.map toSl)[k]? = some x ∧ (start N vs)[k]? = (vs.map some)[k]? := fun k x n e => by
    have e' := pad_get e n
    refine ⟨e', start_get ?_⟩
    have := (List.getElem?_eq_some_iff.mp e').1
    rw [List.length_map] at this
    omega
  refine ⟨⟨c.sub, c.off, c.liv, ?_, fun i b d e => ?_, fun i b ct e => ?_, fun i j b c1 b' c2 l l' F F' ne e1 e2 s1 s2 o1 o2 => ?_⟩, fun i j k h => ?_⟩
  · unfold L2.start
    simp [hl]
  · obtain ⟨e', q⟩ := hs i _ (by simp) e
    rw [q]
    exact c.frz i b d e'
  · obtain ⟨e', q⟩ := hs i _ (by simp) e
    rw [q]
    exact c.own i b ct e'
  · obtain ⟨e1', q1⟩ := hs i _ (by simp) e1
    obtain ⟨e2', q2⟩ := hs j _ (by simp) e2
    rw [q1] at s1
    rw [q2] at s2
    exact c.sep i j b c1 b' c2 l l' F F' ne e1' e2' s1 s2 o1 o2
  · obtain ⟨h', _⟩ := hs i _ (by simp) h
    rw [List.getElem?_map] at h'
    cases q : xs[i]? with
    | none => rw [q] at h'; cases h'
    | some x => rw [q] at h'; cases x <;> cases h'
theorem outs_len : ∀ {xs : List Rs} {k : Nat} {r : Ro}, (outs xs k r).length = xs.length
  | [], _, _ => rfl
  | .fz _ :: xs, k, r => by simp [outs, outs_len]
  | .ow _ :: xs, k, r => by simp [outs, outs_len]
theorem outs_get {r : Ro} {c : Ct} : ∀ {xs : List Rs} {k j : Nat}, xs[j]? = some (Rs.ow c) → (outs xs k r)[j]? = some (match r[k + j]? with
      | some (.own _ c') => .ow c'
      | some (.frz _ d) => .fz d
      | _ => .ow c)
  | [], _, _, h => by simp at h
  | x :: xs, k, 0, h => by
    simp at h
    subst h
    simp only [outs, Nat.add_zero, List.getElem?_cons_zero]
    try rfl
  | x :: xs, k, j + 1, h => by
    have ih := outs_get (r := r) (c := c) (xs := xs) (k := k + 1) (j := j) (by simpa using h)
    rw [show k + 1 + j = k + (j + 1) by omega] at ih
    cases x <;> simpa only [outs, List.getElem?_cons_succ] using ih
/-- the arguments behind a def's body -/
theorem exit_con {σ0 σ' : L2.St} {r' : Ro} {m : Nat} (c : Con K B H (vs.map some) (xs.map toSl) O) (sB : Same B B') (h0 : ∀ k, k < vs.length → σ0[k]? = (vs.map some)[k]?) (c' : Con K B' H' σ' r' O') (b : Bor (xs.map toSl ++ List.replicate m .non) σ0 r' σ') :
    Con K B' H' (vs.map some) (List.zipWith exitSl xs (outs xs 0 r')) O' := by
  have hl : xs.length = vs.length := by have := c.len; simpa using this
  -- what stands at each place
  have at_ : ∀ (k : Nat) (x : Sl), (List.zipWith exitSl xs (outs xs 0 r'))[k]? = some x → (∃ d, x = .frz false d ∧ (xs.map toSl)[k]? = some (.frz false d)) ∨ (r'[k]? = some x ∧ σ'[k]? = (vs.map some)[k]?) := by
    intro k x e
    rw [List.getElem?_zipWith] at e
    cases q : xs[k]? with
    | none => rw [q] at e; cases e
    | some y =>
      rw [q] at e
      have hk : k < xs.length := (List.getElem?_eq_some_iff.mp q).1
      cases y with
      | fz d =>
        cases q2 : (outs xs 0 r')[k]? with
        | none => rw [q2] at e; cases e
        | some z =>
          rw [q2] at e
          cases e
          exact .inl ⟨d, rfl, by rw [List.getElem?_map, q]; rfl⟩
      | ow ct =>
        rw [outs_get (c := ct) q, Nat.zero_add] at e
        have hr : (xs.map toSl ++ List.replicate m Sl.non)[k]? = some (Sl.own true ct) := by
          rw [List.getElem?_append_left (by simpa using hk), List.getElem?_map, q]; rfl
        obtain ⟨⟨y, h1, h2⟩, h3⟩ := b k _ hr rfl
        refine .inr ⟨?_, by rw [h3]; exact h0 k (by omega)⟩
        rw [h1] at e ⊢
        cases y with
        | non => cases h2
        | al _ _ => cases h2
        | frz b2 d =>
          have h2 : b2 = true := h2
          subst h2
          exact e
        | own b2 c2 =>
          have h2 : b2 = true := h2
          subst h2
          exact e
  refine ⟨⟨c'.sub, c'.off, c'.liv, by rw [List.length_zipWith, outs_len, Nat.min_self, hl, List.length_map], fun i b d e => ?_, fun i b ct e => ?_, fun i j b c1 b' c2 l l' F F' ne e1 e2 s1 s2 o1 o2 => ?_⟩, fun i j k h => ?_⟩
  · rcases at_ i _ e with ⟨d', h1, h2⟩ | ⟨h1, h2⟩
    · cases h1
      obtain ⟨v, g1, g2⟩ := c.frz i false d h2
      exact ⟨v, g1, dp_same sB g2⟩
    · rw [← h2]
      exact c'.frz i b d h1
  · rcases at_ i _ e with ⟨d', h1, h2⟩ | ⟨h1, h2⟩
    · cases h1
    · rw [← h2]
      exact c'.own i b ct h1
  · rcases at_ i _ e1 with ⟨d', h1, h2⟩ | ⟨h1, h2⟩
    · cases h1
    · rcases at_ j _ e2 with ⟨d', h3, h4⟩ | ⟨h3, h4⟩
      · cases h3
      · rw [← h2] at s1
        rw [← h4] at s2
        exact c'.sep i j b c1 b' c2 l l' F F' ne h1 h3 s1 s2 o1 o2
  · rw [List.getElem?_zipWith] at h
    cases q : xs[i]? with
    | none => rw [q] at h; cases h
    | some x =>
      cases q2 : (outs xs 0 r')[i]? with
      | none => rw [q, q2] at h; cases h
      | some y => rw [q, q2] at h; cases x <;> first | cases h | (cases y <;> cases h)
/-- a def's body read from its promise -/
theorem def_read {N : List Str} {n : Nat} {body : S} {Q : VK} {E : XK} (hn : n ≤ N.length) (h : spD K mg (defSem n N.length body) n vs H Q E) :
    tS ⟨K, mg⟩ (fun c d _ H => E c d H) body { nx := fun _ H' => Q .non H', rt := Q } (start N vs) H := by
  obtain ⟨hv, B, O, xs, c, o, ys, e, hy, p⟩ := h
  have hl : xs.length = vs.length := by have := c.len; simpa using this
  unfold defSem at e
  rw [if_pos (by omega)] at e
  have cp := c.pad (N := N) (by omega)
  rw [hv] at cp
  have ex : ∀ {B' H' O' σ' r'}, Same B B' → Con K B' H' σ' r' O' → Bor (xs.map toSl ++ List.replicate (N.length - n) .non) (start N vs) r' σ' → Con K B' H' (vs.map some) (List.zipWith exitSl xs (outs xs 0 r')) O' :=
    fun sB c' b => exit_con c sB (fun k hk => start_get hk) c' b
  by_cases hz : allFz xs = true
  · -- nothing was lent
    have noOwn : ∀ (ys : List Rs), allFz ys = true → ∀ (m i : Nat) b ct, (ys.map toSl ++ List.replicate m Sl.non)[i]? = some (Sl.own b ct) → False := by
      intro ys
      induction ys with
      | nil =>
        intro _ m i b ct h
        simp [List.getElem?_replicate] at h
      | cons y ys ih =>
        intro h m i b ct h2
        cases y with
        | fz d =>
          cases i with
          | zero => cases h2
          | succ i => exact ih h m i b ct (by simpa using h2)
        | ow c => cases h
    have cp0 := cp.shrink (O' := fun _ => False) (fun _ h => h.elim) fun i b ct l F e _ _ => (noOwn xs hz _ i b ct e).elim
    have up : ∀ {B' H' : Hp} {O' : Addr → Prop}, Step B H (fun _ => False) B' H' O' → Step B H O B' H' O' := fun s => ⟨s.sB, fun a o h _ => s.keep a o h (fun z => z), s.live, fun a h _ => s.nB a h (fun z => z), fun a h => (s.nO a h).elim (fun z => z.elim) .inr⟩
    refine ⟨B, _, _, cp0, ?_⟩
    cases q : body (xs.map toSl ++ List.replicate (N.length - n) .non) with
    | none => rw [q] at e; cases e
    | some z =>
      obtain ⟨so, r'⟩ := z
      rw [q] at e
      refine ⟨so, r', rfl, ?_⟩
      cases so with
      | nx =>
        cases e
        exact fun B' H' O' σ' s c' b => p B' H' O' .non (up s) (ex s.sB c' b) .non
      | ret v =>
        cases e
        exact fun B' H' O' σ' x s c' b rv => p B' H' O' x (up s) (ex s.sB c' b) rv
      | rets i =>
        simp only [handOn] at e
        split at e
        · rename_i c q2
          rw [if_pos hz] at e
          cases e
          intro B' H' O' σ' x s c' b hx
          obtain ⟨l, F, h1, h2, h3⟩ := c'.own i _ _ q2
          rw [hx] at h1
          cases h1
          have c2 := c'.release q2 hx h2
          have b2 : Bor (xs.map toSl ++ List.replicate (N.length - n) .non) (start N vs) (r'.set i .non) σ' := b.trans (bor_set q2 fun z => by cases z)
          refine p B' H' (fun a => O' a ∧ a ∉ F) _ ⟨s.sB, fun a o h _ => s.keep a o h (fun z => z), s.live, fun a h _ => s.nB a h (fun z => z), fun a h => (s.nO a h.1).elim (fun z => z.elim) .inr⟩ (ex s.sB c2 b2) ⟨l, F, rfl, h2, fun a ha => ⟨?_, c'.off a (h3 a ha), fun z => z.2 ha⟩⟩
          exact (s.nO a (h3 a ha)).elim (fun z => z.elim) (fun z => z)
        · cases e
      | exc x =>
        cases e
        exact fun B' H' O' σ' k dx s c' b rx => p B' H' O' k dx (up s) (ex s.sB c' b) rx
      | brk => cases e
      | cnt => cases e
  refine ⟨B, _, O, cp, ?_⟩
  cases q : body (xs.map toSl ++ List.replicate (N.length - n) .non) with
  | none => rw [q] at e; cases e
  | some z =>
    obtain ⟨so, r'⟩ := z
    rw [q] at e
    refine ⟨so, r', rfl, ?_⟩
    cases so with
    | nx =>
      cases e
      exact fun B' H' O' σ' s c' b => p B' H' O' .non s (ex s.sB c' b) .non
    | ret v =>
      cases e
      exact fun B' H' O' σ' x s c' b rv => p B' H' O' x s (ex s.sB c' b) rv
    | rets i =>
      simp only [handOn] at e
      split at e
      · rw [if_neg hz] at e
        cases e
      · cases e
    | exc x =>
      cases e
      exact fun B' H' O' σ' k dx s c' b rx => p B' H' O' k dx s (ex s.sB c' b) rx
    | brk => cases e
    | cnt => cases e
end
/-- a def keeps its promise by its body's meaning -/
theorem def_ok {P : Program} {w : World} {K : PySem.W.Frag} {mg : Str → Option Value} {base : Heap} {x qual : Str} {st : Stmt} {f : Addr} {fd : FuncData} {N ps : List Str} {k : Nat} {body : S} (F : Fun K x qual st f fd) (Sc : FnScope N ps (defScope st)) (hn : ps.length ≤ N.length)
    (hb : ∀ (cdv : Value) (A : Around) (outer : List Env) (s : Shared) (H : Hp) (E : XK), Room k (A.deeper (envOfC qual (defScope st) s.heap.objs.size f cdv)) →
      L2N.Takes (cxOf (L2N.CX P w) P w K mg base N qual (defScope st) f cdv A outer s H E) (fun c d _ H => E c d H) →
      DSs (cxOf (L2N.CX P w) P w K mg base N qual (defScope st) f cdv A outer s H E) (fun c d _ H => E c d H) (defBody st) body) :
    FnOk P w K mg base (L2N.CX P w) (k + 1) f fd ps (spD K mg (defSem ps.length N.length body) ps.length) := by
  obtain ⟨oc, od, kV, doc, pm, an, cdv, ct, osl, rfl, lk, hcd⟩ := F.ex
  exact fn_of lk hcd Sc (fun vs H Q E h => h.1) fun A outer s H vs Q E hr h => ⟨_, hb cdv A outer s H E hr (L2N.takes_of rfl rfl rfl rfl), def_read hn h⟩
end DL
end

section
namespace DL
open PySem
/-- the list in slot i (or looked at by it) is changed -/
def updSl (r : Ro) (i : Nat) (ds : List D) : Ro := match r[i]? with
  | some (.own b _) => r.set i (.own b (.lst ds))
  | some (.al j k) => match r[j]? with
    | some (.own b (.ll rows)) => r.set j (.own b (.ll (rows.set k ds)))
    | _ => r
  | _ => r
def listAt (r : Ro) (i : Nat) : Option (List D) := match look2 r (.slot i) with
  | some (.ow (.lst ds)) => some ds
  | _ => none
/-- x.m(..) that changes the list x -/
def mMut (g : List D → List D → Option (List D × D)) (i : Nat) (ms : List (M AV)) : M RV := fun r => match listAt r i with
  | none => none
  | some _ => (oL ms).bind (fun as => fun r => match listAt r i, looks2 r as with
    | some ds, some xs => match dataAll xs with
      | some es => (g ds es).map fun p => (.ok (.val p.2), updSl r i p.1)
      | none => none
    | _, _ => none) r
def gAppend : List D → List D → Option (List D × D)
  | ds, [d] => if ds.length < lineD then some (ds ++ [d], .none) else none
  | _, _ => none
/-- x[i] = e of a list -/
def sSub (i : Nat) (me : M RV) (mi : M AV) : S := sEx (mFz me) fun d => fun r => match listAt r i with
  | none => none
  | some _ => sEx mi (fun a => fun r => match listAt r i, (look2 r a).bind Rs.data with
    | some ds, some (.int n) => (ixD ds.length n).map fun k => (.nx, updSl r i (ds.set k d))
    | _, _ => none) r
/-- a, b = e, f -/
def sPar (i j : Nat) (m n : M RV) : S := sEx (mFz m) fun d => sEx (mFz n) fun e => sSeq (putSl i (.val d)) (putSl j (.val e))
/-- a, b = e -/
def sUnp (m : M RV) (set : D → S) : S := sEx (mFz m) set
/-- comprehensions of new lists -/
def lcL (vs : List Nat) (set : D → S) (t : M Bool) (e : M RV) : List D → List (List D) → Ro → Option (List (List D) × Ro)
  | [], acc, r => some (acc, r)
  | d :: ds, acc, r => match set d r with
    | some (.nx, r1) => match t r1 with
      | some (.ok true, r2) => match e r2 with
        | some (.ok (.new (.lst x)), r3) => if acc.length < lineD then lcL vs set t e ds (acc ++ [x]) (wipeR r3 vs) else none
        | _ => none
      | some (.ok false, r2) => lcL vs set t e ds acc (wipeR r2 vs)
      | _ => none
    | _ => none
def mLcL (vs : List Nat) (mi : M (List D)) (set : D → S) (t : M Bool) (e : M RV) : M RV := mi.bind fun ds => fun r =>
  if anyPin r vs then none else (lcL vs set t e ds [] (wipeR r vs)).map fun p => (.ok (.new (.ll p.1)), p.2)
/-- x[lo:hi] -/
def sIxD (n d : Nat) : Option Int → Nat
  | none => d
  | some v => if v < 0 then (v + n).toNat else min v.toNat n
def cutD {α : Type} (xs : List α) (lo hi : Option Int) : List α := (xs.drop (sIxD xs.length 0 lo)).take (sIxD xs.length xs.length hi - sIxD xs.length 0 lo)
def scrL : List (D × D) → Option (List Int)
  | [] => some []
  | (.int n, .none) :: r => (scrL r).map (n :: ·)
  | _ => none
/-- the law's script: a dict here, marked by its first entry -/
def scrOf : List (D × D) → Option (List Int)
  | (.none, .none) :: r => scrL r
  | _ => none
def gCut (lo hi : Option Int) : Rs → Option RV := fun a => match a.data with
  | some (.list xs) => some (.new (.lst (cutD xs lo hi)))
  | some (.tuple xs) => some (.val (.tuple (cutD xs lo hi)))
  | some (.dict kvs) => (scrOf kvs).map fun ns => .new (.lst ((cutD ns lo hi).map .int))
  | _ => none
/-- a bound -/
def mBd : Option (M AV) → M (Option Int)
  | none => M.ret none
  | some m => m.bind fun a => fun r => match (look2 r a).bind Rs.data with
    | some (.int n) => some (.ok (some n), r)
    | _ => none
def mSl (m : M AV) (lo hi : Option (M AV)) : M RV := m.bind fun a => (mBd lo).bind fun l => (mBd hi).bind fun h => fun r => ((look2 r a).bind (gCut l h)).map fun v => (.ok v, r)
end DL
end

section
namespace DL
open PySem PySem.Spec PyProof.Rows L2
theorem listAt_look {r : Ro} {i : Nat} {ds : List D} (h : listAt r i = some ds) : look2 r (.slot i) = some (.ow (.lst ds)) := by
  unfold listAt at h
  split at h
  · rename_i es q; cases h; exact q
  · cases h
section
variable {K : PySem.W.Frag} {B H : Hp} {σ : L2.St} {r : Ro} {O : Addr → Prop}
theorem rows_set {a : Addr} {xs' : List V} {ds' : List D} : ∀ {as : List Addr} {rows : List (List D)} {k : Nat}, RowsAt K B H as rows → as[k]? = some a → as.Nodup → DqAll K B xs' ds' → RowsAt K B (upd H a (.lst xs')) as (rows.set k ds')
  | _, _, _, .nil, _, _, _ => .nil
  | x :: xs, y :: ys, 0, .cons hx t, g, nd, d => by
    simp at g
    subst g
    exact .cons ⟨xs', upd_same, d⟩ (rowsAt_same (Same.refl _) t fun z hz => upd_ne fun e => (List.nodup_cons.mp nd).1 (e ▸ hz))
  | x :: xs, y :: ys, k + 1, .cons hx t, g, nd, d => by
    have g' : xs[k]? = some a := by simpa using g
    have nx : x ≠ a := fun e => (List.nodup_cons.mp nd).1 (e ▸ List.mem_of_getElem? g')
    refine .cons ?_ (rows_set t g' (List.nodup_cons.mp nd).2 d)
    obtain ⟨ws, w1, w2⟩ := hx
    exact ⟨ws, by rw [upd_ne nx]; exact w1, w2⟩
theorem bor_same {i : Nat} {x y : Sl} (h : r[i]? = some x) (hp : pinned x = true → pinned y = true) : Bor r σ (r.set i y) σ := bor_set h hp
/-- the list that slot i tells of, and what a change of it does -/
theorem Con.mut (c : Con K B H σ r O) {i : Nat} {ds : List D} (h : listAt r i = some ds) : ∃ l xs, σ[i]? = some (some (V.ref l)) ∧ H l = some (.lst xs) ∧ DqAll K B xs ds ∧
    ∀ xs' ds', DqAll K B xs' ds' → Con K B (upd H l (.lst xs')) σ (updSl r i ds') O ∧ Step B H O B (upd H l (.lst xs')) O ∧ Bor r σ (updSl r i ds') σ := by
  have h := listAt_look h
  have live : ∀ (l : Addr) o, ∀ a, H a ≠ none → upd H l o a ≠ none := fun l o a ha => by
    by_cases e : a = l
    · subst e; rw [upd_same]; simp
    · rw [upd_ne e]; exact ha
  simp only [look2] at h
  split at h
  · cases h
  · rename_i b ct q
    cases h
    obtain ⟨l, F, h1, o, h3⟩ := c.own i b _ q
    obtain ⟨rfl, xs, h4, h5⟩ := id o
    refine ⟨l, xs, h1, h4, h5, fun xs' ds' d => ?_⟩
    obtain ⟨c1, s1⟩ := c.change (ct' := .lst ds') (F' := [l]) (H' := upd H l (.lst xs')) q h1 o (fun a ha => upd_ne (by simpa using ha)) ⟨rfl, xs', upd_same, d⟩ (fun a ha => ha) (live l _) (fun rows e => by cases e)
    have e : updSl r i ds' = r.set i (.own b (.lst ds')) := by unfold updSl; rw [q]
    rw [e]
    exact ⟨c1, s1, bor_same q fun z => z⟩
  · rename_i j k q
    split at h
    · rename_i b rows q2
      cases q3 : rows[k]? with
      | none => rw [q3] at h; cases h
      | some es =>
        rw [q3] at h
        cases h
        obtain ⟨L, F, h1, o, h3⟩ := c.own j b _ q2
        obtain ⟨as, rfl, h2, nd, ra⟩ := id o
        obtain ⟨a, g1, g2⟩ := c.al i j k q b rows L as q2 h1 h2
        obtain ⟨a', g3, vs, g4, g5⟩ := paired_at ra q3
        rw [g1] at g3; cases g3
        have hm : a ∈ as := List.mem_of_getElem? g1
        have nL : L ≠ a := fun e => (List.nodup_cons.mp nd).1 (e ▸ hm)
        refine ⟨a, vs, g2, g4, g5, fun xs' ds' d => ?_⟩
        have ra' := rows_set (xs' := xs') ra g1 (List.nodup_cons.mp nd).2 d
        obtain ⟨c1, s1⟩ := c.change (ct' := .ll (rows.set k ds')) (F' := L :: as) (H' := upd H a (.lst xs')) q2 h1 o (fun x hx => upd_ne fun e => hx (by rw [e]; simp [hm]))
          ⟨as, rfl, by rw [upd_ne nL]; exact h2, nd, ra'⟩ (fun a ha => ha) (live a _) (fun rows' e => .inr ⟨upd_ne nL, rows, rfl⟩)
        have e : updSl r i ds' = r.set j (.own b (.ll (rows.set k ds'))) := by unfold updSl; rw [q]; simp only [q2]
        rw [e]
        exact ⟨c1, s1, bor_same q2 fun z => z⟩
    · cases h
  · cases h
end
/-- a method that changes its list, by values -/
def MutD (X : Cx) (id : String) (g : List D → List D → Option (List D × D)) : Prop :=
  MtR X id fun x vs H Q => ∃ B l xs ds es ds' d, Same B H ∧ x = .ref l ∧ H l = some (.lst xs) ∧ DqAll X.K B xs ds ∧ DqAll X.K B vs es ∧ g ds es = some (ds', d) ∧ ∀ xs' v, DqAll X.K B xs' ds' → Dq X.K B v d → Q v (upd H l (.lst xs'))
section
variable {X : Cx} {W : WX}
theorem mut_run {g : List D → List D → Option (List D × D)} {i : Nat} {as : List AV} {B : Hp} {r : Ro} {O : Addr → Prop} {σ : L2.St} {H : Hp} {vs : List V} {Q : VK} {l0 : Addr} (hs : σ[i]? = some (some (V.ref l0)))
    (h : At (Cx.g X) W (fun r => match listAt r i, looks2 r as with
    | some ds, some xs => match dataAll xs with
      | some es => (g ds es).map fun p => (.ok (.val p.2), updSl r i p.1)
      | none => none
    | _, _ => none) (rV (Cx.g X)) B r O σ H Q) (x : Paired (AvR X.K B σ) as vs) :
    ∃ B l xs ds es ds' d, Same B H ∧ V.ref l0 = .ref l ∧ H l = some (.lst xs) ∧ DqAll X.K B xs ds ∧ DqAll X.K B vs es ∧ g ds es = some (ds', d) ∧ ∀ xs' v, DqAll X.K B xs' ds' → Dq X.K B v d → Q v (upd H l (.lst xs')) := by
  obtain ⟨c, o, r', e, p⟩ := h
  simp only at e
  split at e
  · rename_i ds xs q1 q2
    split at e
    · rename_i es q3
      cases q4 : g ds es with
      | none => rw [q4] at e; cases e
      | some z =>
        obtain ⟨ds', d⟩ := z
        rw [q4] at e
        cases e
        obtain ⟨l, ys, h1, h2, h3, h4⟩ := c.mut q1
        rw [hs] at h1; cases h1
        refine ⟨B, _, ys, ds, es, ds', d, c.sub, rfl, h2, h3, dataAll_of q3 (c.looks2_ q2 x), q4, fun xs' v dx dv => ?_⟩
        obtain ⟨c1, s1, b1⟩ := h4 xs' ds' dx
        exact p B _ O v s1 c1 b1 dv
    · cases e
  · cases e
/-- x.m(e, ..) -/
theorem de_mut {name : Str} {id : String} {x e : Expr} {es : List Expr} {apos cpos : Pos} {g : List D → List D → Option (List D × D)} {i : Nat} {ms : List (M AV)} (pa : PlainAttrs "list") (slot : Slot "list" name id) (hty : typeOf (.builtin id) = pure (.type "method_descriptor"))
    (hm : MutD X id g) (ho : PE X x (tVar i)) (ha : DA X W (e :: es) (oL ms))
    (hbase : attributeBase x name X.env (eval x X.env) = eval x X.env := by rfl)
    (hfew : ((backTo cpos (starEach (e :: es) X.env)).all (fun x => !x.1) && (backToKw cpos (keywordEach [] X.env)).all (fun x => x.1.isSome)
      && decide ((e :: es).length + ([] : List Keyword).length + (if ([] : List Keyword).isEmpty then 0 else 1) < 30)) = true := by rfl)
    (hline : (apos.endLine == cpos.line) = true := by rfl) (hs : starEach (e :: es) X.env = (false, eval e X.env) :: starEach es X.env := by rfl) (hplain : (backTo cpos (starEach es X.env)).any (·.1) = false := by rfl) :
    DE X W (.Call (.Attribute x name apos) (e :: es) [] cpos) (mMut g i ms) := pe_weak (pe_bm pa slot hty hm ho ha hbase hfew hline hs hplain) fun σ H Q ⟨B, r, O, c, o, r', e, p⟩ => by
  unfold mMut at e
  split at e
  · cases e
  · rename_i ds q
    obtain ⟨l, ys, h1, h2, h3, h4⟩ := c.mut q
    refine ⟨.ref l, h1, .inl ⟨rfl, ys, .of h2⟩, tG.of ((At.bind (R := rL (Cx.g X)) ⟨c, o, r', e, p⟩ later_rV).mono ?_)⟩
    rintro vs H1 ⟨as, B1, r1, O1, s1, x1, h5⟩
    exact mut_run h1 h5 x1
theorem md_append : MutD X "list.append" gAppend := by
  intro pins s σ H x vs v us Q I rx rs h
  obtain ⟨B, l, xs, ds, es, ds', d, sb, rfl, hH, hd, he, hg, q⟩ := h
  unfold gAppend at hg
  split at hg
  · rename_i d0
    split at hg
    · rename_i hl
      cases hg
      cases he with
      | cons h1 t =>
        cases t
        exact mt_append pins s σ H _ _ v us Q I rx rs ⟨l, xs, _, rfl, rfl, hH, by rw [hd.length, ← line_eq]; exact hl, q _ _ (hd.append (.cons h1 .nil)) .non⟩
    · cases hg
  · cases hg
end
end DL
end

section
namespace DL
open PySem PySem.Spec PyProof.Rows L2
section
variable {X : Cx} {W : WX}
theorem AtS.exF {k : D → S} {m : M RV} {B : Hp} {r : Ro} {O : Addr → Prop} {σ : L2.St} {H : Hp} {D' : Ends} (h : AtS (Cx.g X) W (sEx (mFz m) k) B r O σ H D') :
    At (Cx.g X) W m (rV (Cx.g X)) B r O σ H fun y H1 => ∃ a B1 r1 O1, Step B H O B1 H1 O1 ∧ Bor r σ r1 σ ∧ Dq X.K B1 y a ∧ Con X.K B1 H1 σ r1 O1 ∧ ∃ o r', k a r1 = some (o, r') ∧ PostS (Cx.g X) W B r O σ H D' r' o :=
  At.froz (h.ex (R := rD (Cx.g X)))
/-- x[i] = e -/
theorem ds_sub {x e ie : Expr} {tpos pos : Pos} {i : Nat} {me : M RV} {mi : M AV} (ho : PE X x (tVar i)) (he : DE X W e me) (hi : DO X W ie mi)
    (ha : ∀ v, assign (.Subscript x ie tpos) X.env v = (do
      let ov ← holding [v] (eval x X.env)
      let iv ← holding [v, ov] (eval ie X.env)
      standAt tpos
      holding [v, ov, iv] (setItem ov iv v)
      release [v, ov, iv] []) := by intro _; rfl) (hs : swapsWithSole [.Subscript x ie tpos] e pos.line X.env = pure false := by rfl) (hw : swappedStores [.Subscript x ie tpos] e X.env = pure none := by rfl)
    (h1 : (assignEach [.Subscript x ie tpos] X.env).map (·.2) = [assign (.Subscript x ie tpos) X.env] := by rfl) : DS X W (.Assign [.Subscript x ie tpos] e pos) (sSub i me mi) :=
  ps_weak (ps_asg he (pg_sub ho hi set_list ha) hs hw h1) fun D σ H ⟨B, r, O, h⟩ => by
    refine tG.of (h.exF.mono ?_)
    rintro y H1 ⟨d, B1, r1, O1, s1, b1, x1, c1, o, r', e1, p⟩
    split at e1
    · cases e1
    · rename_i ds0 q0
      obtain ⟨l, xs0, g1, g2, g3, _⟩ := c1.mut q0
      refine ⟨.ref l, g1, ?_⟩
      -- the index
      have h2 : AtS (Cx.g X) W (sEx mi (fun a => fun r => match listAt r i, (look2 r a).bind Rs.data with
        | some ds, some (.int n) => (ixD ds.length n).map fun k => (.nx, updSl r i (ds.set k d))
        | _, _ => none)) B1 r1 O1 σ H1 D := AtS.after s1 c1 b1 e1 p
      refine tG.of ((h2.ex (R := rA (Cx.g X))).mono ?_)
      rintro z H2 ⟨a, B2, r2, O2, s2, b2, x2, c2, o2, r3, e2, p2⟩
      split at e2
      · rename_i ds n q1 q2
        cases q3 : ixD ds.length n with
        | none => rw [q3] at e2; cases e2
        | some k =>
          rw [q3] at e2
          cases e2
          obtain ⟨l', xs, k1, k2, k3, k4⟩ := c2.mut q1
          rw [g1] at k1; cases k1
          obtain ⟨rs, q4, q5⟩ := Option.bind_eq_some_iff.mp q2
          have rz : z = .int n := rs_int (c2.look2_ q4 x2) q5
          obtain ⟨c3, s3, b3⟩ := k4 (xs.set k y) (ds.set k d) (k3.set (dp_same s2.sB x1) k)
          exact ⟨l, xs, n, k, rfl, rz, k2, by rw [k3.length]; exact q3, p2 B2 _ O2 σ (s2.trans s3) c3 (b2.trans b3)⟩
      · cases e2
/-- a, b = e, f -/
theorem ds_par {i j : Nat} {x y : Str} {a b : Expr} {px py pt pos : Pos} {kt k2 pt2} {m n : M RV} (hc : X.calm = true) (hN : X.N.Nodup) (hi : X.N[i]? = some x) (hj : X.N[j]? = some y) (hij : i ≠ j)
    (hx : X.env.scope.names.lookup x = some .local) (hy : X.env.scope.names.lookup y = some .local) (ha : DE X W a m) (hb : DE X W b n)
    (hw : swappedStores [.Tuple [.Name x px, .Name y py] kt pt] (.Tuple [a, b] k2 pt2) X.env = pure (some [x, y]))
    (hs : swapsWithSole [.Tuple [.Name x px, .Name y py] kt pt] (.Tuple [a, b] k2 pt2) pos.line X.env = pure false := by rfl)
    (h1 : starEach [a, b] X.env = (false, eval a X.env) :: starEach [b] X.env := by rfl) (h2 : starEach [b] X.env = (false, eval b X.env) :: starEach [] X.env := by rfl) :
    DS X W (.Assign [.Tuple [.Name x px, .Name y py] kt pt] (.Tuple [a, b] k2 pt2) pos) (sPar i j m n) :=
  ps_weak (L2.ps_par hc hN hi hj hij hx hy (pa_cons ha (pa_cons hb pa_nil h2) h1) hw hs) fun D σ H ⟨B, r, O, h⟩ => by
    refine tG.of (h.exF.mono ?_)
    rintro v H1 ⟨d, B1, r1, O1, s1, b1, x1, c1, o, r', e1, p⟩
    have hh : AtS (Cx.g X) W (sEx (mFz n) fun e => sSeq (putSl i (.val d)) (putSl j (.val e))) B1 r1 O1 σ H1 D := AtS.after s1 c1 b1 e1 p
    refine tG.of (hh.exF.mono ?_)
    rintro w H2 ⟨e, B2, r2, O2, s2, b2, x2, c2, o2, r3, e2, p2⟩
    refine ⟨v, w, rfl, ?_⟩
    unfold sSeq at e2
    cases q : putSl i (.val d) r2 with
    | none => rw [q] at e2; cases e2
    | some z =>
      obtain ⟨o3, r4⟩ := z
      obtain ⟨rfl, O3, c3, b3, h3⟩ := put_ok (H0 := H1) c2 q (show RvR X.K H1 B2 H2 O2 (.val d) v from dp_same s2.sB x1) s2.live
      rw [q] at e2
      obtain ⟨rfl, O4, c4, b4, h4⟩ := put_ok (H0 := H1) c3 e2 (show RvR X.K H1 B2 H2 O3 (.val e) w from x2) s2.live
      exact p2 B2 H2 O4 _ (put_step (put_step s2 h3) h4) c4 (b2.trans (b3.trans b4))
/-- a, b = e -/
theorem ds_unp {tg e : Expr} {pos : Pos} {m : M RV} {ix : List Nat} {set : D → S} (he : DE X W e m) (hg : DG X false tg ix set) (hso : ∀ d r o r', set d r = some (o, r') → o = .nx) (hs : swapsWithSole [tg] e pos.line X.env = pure false := by rfl) (hw : swappedStores [tg] e X.env = pure none := by rfl)
    (h1 : (assignEach [tg] X.env).map (·.2) = [assign tg X.env] := by rfl) : DS X W (.Assign [tg] e pos) (sUnp m set) := ps_weak (ps_asg he hg hs hw h1) fun D σ H ⟨B, r, O, h⟩ => by
  refine tG.of (h.exF.mono ?_)
  rintro v H1 ⟨d, B1, r1, O1, s1, b1, x1, c1, o, r', e1, p⟩
  have := hso _ _ _ _ e1
  subst this
  exact ⟨B1, r1, O1, d, r', c1, .inl x1, e1, fun σ' c2 b2 _ _ => p B1 H1 O1 σ' s1 c2 (b1.trans b2)⟩
theorem putSl_nx {i : Nat} {v : RV} {r r' : Ro} {o : SO} (e : putSl i v r = some (o, r')) : o = .nx := by
  unfold putSl at e
  split at e
  · cases e
  · split at e
    · cases e
    · cases v with
      | val d => cases e; rfl
      | new c =>
        cases c with
        | ll rows =>
          simp only at e
          split at e <;> cases e
          rfl
        | _ => cases e; rfl
theorem sets_nx : ∀ {fs : List (D → S)}, (∀ f ∈ fs, ∀ d r o r', f d r = some (o, r') → o = .nx) → ∀ {ds : List D} {r r' : Ro} {o : SO}, sets fs ds r = some (o, r') → o = .nx
  | [], _, [], _, _, _, e => by cases e; rfl
  | [], _, _ :: _, _, _, _, e => by cases e
  | _ :: _, _, [], _, _, _, e => by cases e
  | f :: fs, hf, d :: ds, r, r', o, e => by
    have e' : sSeq (f d) (sets fs ds) r = some (o, r') := e
    unfold sSeq at e'
    cases q : f d r with
    | none => rw [q] at e'; cases e'
    | some z =>
      obtain ⟨o1, r1⟩ := z
      have := hf f (by simp) d r o1 r1 q
      subst this
      rw [q] at e'
      exact sets_nx (fun g hg => hf g (by simp [hg])) e'
theorem setN_nx (i : Nat) : ∀ d r o r', setN i d r = some (o, r') → o = .nx := fun d r o r' e => putSl_nx e
theorem setT_nx {fs : List (D → S)} (hf : ∀ f ∈ fs, ∀ d r o r', f d r = some (o, r') → o = .nx) : ∀ d r o r', setT fs d r = some (o, r') → o = .nx := fun d r o r' e => by
  cases d with
  | tuple ds => exact sets_nx hf e
  | _ => cases e
end
end DL
end

section
namespace DL
open PySem PySem.Spec PyProof.Rows L2
section
variable {X : Cx} {W : WX}
theorem rowsAt_snoc {K : PySem.W.Frag} {B H : Hp} {l : Addr} {ds : List D} : ∀ {as : List Addr} {rows : List (List D)}, RowsAt K B H as rows → (∃ vs, H l = some (.lst vs) ∧ DqAll K B vs ds) → RowsAt K B H (as ++ [l]) (rows ++ [ds])
  | _, _, .nil, h => .cons h .nil
  | _, _, .cons a t, h => .cons a (rowsAt_snoc t h)
theorem lcL_read {lo : Bool} {mi : M (List D)} {vs ix : List Nat} {set : D → S} {t : M Bool} {me : M RV} (hix : ∀ j ∈ ix, j ∈ vs) {σ : L2.St} {H : Hp} {Q : VK} (h : tG (Cx.g X) W (mLcL vs mi set t me) (rV (Cx.g X)) σ H Q) :
    tLc (tG (Cx.g X) W mi (rI (Cx.g X) lo)) (gD X.K lo ix set) (tG (Cx.g X) W0 t rB) (tG (Cx.g X) W0 me (rV (Cx.g X))) vs σ H Q := by
  obtain ⟨B, r, O, h⟩ := h
  refine tG.of ((h.bind later_rV (R := rI (Cx.g X) lo)).mono ?_)
  rintro J H1 ⟨ds, B1, r1, O1, s1, x1, c1, o, r', e, p⟩
  intro D hD
  have sv : Serves X.K lo J B1 ds := x1
  simp only at e
  split at e
  · cases e
  · rename_i np
    have np : anyPin r1 vs = false := by simpa using np
    cases q : lcL vs set t me ds [] (wipeR r1 vs) with
    | none => rw [q] at e; cases e
    | some z =>
      obtain ⟨xs, rf⟩ := z
      rw [q] at e
      cases e
      obtain ⟨bD, nD, c2, s2⟩ := c1.lay (o := .lst []) hD
      have wl := wipe_length σ vs
      have wo : ∀ j : Nat, j ∉ vs → (wipe σ vs)[j]? = σ[j]? := fun j hj => wipe_out hj
      refine ⟨fun i m H' => m = ds.length - i ∧ i ≤ ds.length ∧ ∃ B' r2 O' acc ad, Step B1 H1 O1 B' H' O' ∧ Con X.K B' H' (wipe σ vs) r2 O' ∧ Clear r2 vs ∧ Bor r1 σ r2 (wipe σ vs) ∧ H' D = some (.lst (acc.map V.ref)) ∧ RowsAt X.K B' H' acc ad ∧ (D :: acc).Nodup ∧ (∀ a ∈ D :: acc, H1 a = none ∧ B' a = none ∧ ¬ O' a) ∧ lcL vs set t me (ds.drop i) ad r2 = some (xs, rf),
        ⟨ds.length, by simp, Nat.zero_le _, B1, _, O1, [], [], s2, c2.wiped wl wo, fun i hi x hx => wipeR_in hi hx, bor_wipe np wo, upd_same, .nil, by simp, fun a ha => (by simp at ha; subst ha; exact ⟨hD, bD, nD⟩), q⟩, ?_⟩
      rintro i m H2 ⟨rfl, hi2, B2, r2, O2, acc, ad, s3, c3, k3, b3, hA, hQ, nd2, fr2, e2⟩
      have same : Same B1 H2 := s3.sB.trans c3.sub
      by_cases hlt : i < ds.length
      · refine .inr ⟨sv.go i H2 hlt same, fun H' => i + 1 ≤ ds.length ∧ ∃ B' r2 O' acc ad, Step B1 H1 O1 B' H' O' ∧ Con X.K B' H' (wipe σ vs) r2 O' ∧ Clear r2 vs ∧ Bor r1 σ r2 (wipe σ vs) ∧ H' D = some (.lst (acc.map V.ref)) ∧ RowsAt X.K B' H' acc ad ∧ (D :: acc).Nodup ∧ (∀ a ∈ D :: acc, H1 a = none ∧ B' a = none ∧ ¬ O' a) ∧ lcL vs set t me (ds.drop (i + 1)) ad r2 = some (xs, rf),
          fun H' z => ⟨ds.length - (i + 1), by omega, rfl, z⟩, fun x H3 y => ?_⟩
        have ed : ds.drop i = ds[i] :: ds.drop (i + 1) := (List.drop_eq_getElem_cons hlt)
        rw [ed] at e2
        obtain ⟨B3, s4, c4, d4⟩ : ∃ B3, Step B2 H2 O2 B3 H3 O2 ∧ Con X.K B3 H3 (wipe σ vs) r2 O2 ∧ (Dq X.K B3 x ds[i] ∨ (lo = true ∧ Dw X.K B3 x ds[i])) := by
          rcases sv.yld i H2 x H3 ds[i] (List.getElem?_eq_getElem hlt) same y B2 s3.sB c3.sub with ⟨rfl, d⟩ | ⟨hlo, T, ws, hT, rfl, d⟩
          · exact ⟨B2, .refl, c3, .inl d⟩
          · obtain ⟨c5, s5⟩ := c3.layF (o := .tup ws) hT
            exact ⟨_, s5, c5, .inr ⟨hlo, d⟩⟩
        simp only [lcL] at e2
        cases q1 : set ds[i] r2 with
        | none => rw [q1] at e2; cases e2
        | some z1 =>
          obtain ⟨o1, r3⟩ := z1
          rw [q1] at e2
          cases o1 with
          | nx =>
            refine ⟨B3, r2, O2, ds[i], r3, c4, d4, q1, fun σ2 c5 b5 k5 l5 => ⟨?_, ?_⟩⟩
            · apply List.ext_getElem?
              intro j
              by_cases hj : j ∈ vs
              · by_cases hl : j < σ.length
                · have g : ∀ τ : L2.St, τ.length = σ.length → (wipe τ vs)[j]? = some none := fun τ hτ => by
                    cases qq : (wipe τ vs)[j]? with
                    | none => rw [List.getElem?_eq_none_iff, wipe_length] at qq; omega
                    | some w => cases w with
                      | none => rfl
                      | some w => exact absurd qq (wipe_in hj)
                  rw [g σ rfl, g σ2 (l5.trans wl)]
                · rw [List.getElem?_eq_none (by rw [wipe_length, l5, wl]; omega), List.getElem?_eq_none (by rw [wl]; omega)]
              · rw [wipe_out hj, wipe_out hj, k5 j (fun z => hj (hix j z)), wipe_out hj]
            · simp only at e2
              cases q2 : t r3 with
              | none => rw [q2] at e2; cases e2
              | some z2 =>
                obtain ⟨o2, r4⟩ := z2
                rw [q2] at e2
                refine ⟨B3, r3, O2, c5, o2, r4, q2, ?_⟩
                cases o2 with
                | exc x => cases e2
                | ok b =>
                  intro B5 H5 O5 b' s6 c6 b6 hb'
                  cases hb'
                  have s36 : Step B1 H1 O1 B5 H5 O5 := (s3.trans s4).trans s6
                  have k25 : ∀ a ∈ D :: acc, H5 a = H2 a ∧ B5 a = none ∧ ¬ O5 a := fun a ha => by
                    obtain ⟨f1, f2, f3⟩ := fr2 a ha
                    have hne : H2 a ≠ none := by
                      rcases List.mem_cons.mp ha with z | z
                      · rw [z, hA]; simp
                      · exact rowsAt_some hQ a z
                    have s46 := s4.trans s6
                    refine ⟨?_, s46.nB a hne f3 f2, fun z => ?_⟩
                    · cases qq : H2 a with
                      | none => exact absurd qq hne
                      | some w => exact s46.keep a w qq f3
                    · rcases s46.nO a z with z | z
                      · exact f3 z
                      · exact hne z
                  have hA5 : H5 D = some (.lst (acc.map V.ref)) := by rw [(k25 D (by simp)).1]; exact hA
                  have hQ5 : RowsAt X.K B5 H5 acc ad := rowsAt_same (s4.sB.trans s6.sB) hQ fun a ha => (k25 a (by simp [ha])).1
                  cases b with
                  | false =>
                    exact iteF ⟨hlt, B5, wipeR r4 vs, O5, acc, ad, s36, c6.wiped (wl.trans (l5.trans wl).symm |>.trans rfl) fun j hj => (k5 j fun z => hj (hix j z)).symm, fun i hi x hx => wipeR_in hi hx, bor_wipe2 np (b3.trans (b5.trans b6)) wo, hA5, hQ5, nd2, fun a ha => ⟨(fr2 a ha).1, (k25 a ha).2⟩, e2⟩
                  | true =>
                    simp only at e2
                    cases q3 : me r4 with
                    | none => rw [q3] at e2; cases e2
                    | some z3 =>
                      obtain ⟨o3, r5⟩ := z3
                      rw [q3] at e2
                      cases o3 with
                      | exc x => cases e2
                      | ok rv =>
                        cases rv with
                        | val d => cases e2
                        | new ct =>
                          cases ct with
                          | lst ds2 =>
                            simp only at e2
                            split at e2
                            · rename_i hz
                              refine iteT (tG.of ⟨c6, .ok (.new (.lst ds2)), r5, q3, fun B6 H6 O6 y6 s7 c7 b7 d7 => ?_⟩)
                              obtain ⟨l, F, rfl, ⟨rfl, vs2, w1, w2⟩, w3⟩ := d7
                              obtain ⟨n1, n2, n3⟩ := w3 l (by simp)
                              have k26 : ∀ a ∈ D :: acc, H6 a = H5 a ∧ B6 a = none ∧ ¬ O6 a ∧ a ≠ l := fun a ha => by
                                obtain ⟨f1, f2, f3⟩ := k25 a ha
                                have hne : H5 a ≠ none := by
                                  rcases List.mem_cons.mp ha with z | z
                                  · rw [z, hA5]; simp
                                  · exact rowsAt_some hQ5 a z
                                refine ⟨?_, s7.nB a hne f3 f2, fun z => ?_, fun z => hne (z ▸ n1)⟩
                                · cases qq : H5 a with
                                  | none => exact absurd qq hne
                                  | some w => exact s7.keep a w qq f3
                                · rcases s7.nO a z with z | z
                                  · exact f3 z
                                  · exact hne z
                              have hA6 : H6 D = some (.lst (acc.map V.ref)) := by rw [(k26 D (by simp)).1]; exact hA5
                              have nDl : D ≠ l := (k26 D (by simp)).2.2.2
                              have bD6 := (k26 D (by simp)).2.1
                              have nD6 := (k26 D (by simp)).2.2.1
                              refine ⟨acc.map V.ref, hA6, by rw [List.length_map, hQ5.length, ← line_eq]; exact hz, hlt, ?_⟩
                              have c8 : Con X.K B6 (upd H6 D (.lst (acc.map V.ref ++ [.ref l]))) σ2 r5 O6 := c7.mono (Same.refl _) (fun a w ha => by
                                by_cases z : a = D
                                · subst z; rw [bD6] at ha; cases ha
                                · rw [upd_ne z]; exact c7.sub a w ha) (fun a ha => upd_ne (show a ≠ D from fun z => nD6 (by rw [← z]; exact ha))) c7.off
                              have s37 := s36.trans s7
                              have s9 : Step B1 H1 O1 B6 (upd H6 D (.lst (acc.map V.ref ++ [.ref l]))) O6 := ⟨s37.sB, fun a w ha na => by
                                rw [upd_ne (ne_of_none ha hD)]
                                exact s37.keep a w ha na, fun a ha => by
                                by_cases z : a = D
                                · subst z; rw [upd_same]; simp
                                · rw [upd_ne z]; exact s37.live a ha, s37.nB, s37.nO⟩
                              have nl1 : H1 l = none := by
                                by_cases z : H1 l = none
                                · exact z
                                · exact absurd n1 (s36.live l z)
                              refine ⟨B6, wipeR r5 vs, O6, acc ++ [l], ad ++ [ds2], s9, c8.wiped (wl.trans (l5.trans wl).symm |>.trans rfl) fun j hj => (k5 j fun z => hj (hix j z)).symm, fun i hi x hx => wipeR_in hi hx, bor_wipe2 np (b3.trans (b5.trans (b6.trans b7))) wo, by rw [upd_same, List.map_append]; rfl, ?_, ?_, fun a ha => ?_, e2⟩
                              · refine rowsAt_snoc (rowsAt_same s7.sB hQ5 fun a ha => ?_) ⟨vs2, by rw [upd_ne nDl.symm]; exact w1, w2⟩
                                rw [upd_ne (show a ≠ D from fun z => (List.nodup_cons.mp nd2).1 (z ▸ ha))]
                                exact (k26 a (by simp [ha])).1
                              · have e : D :: (acc ++ [l]) = (D :: acc) ++ [l] := rfl
                                rw [e, List.nodup_append]
                                exact ⟨nd2, by simp, fun a ha b hb => by simp at hb; subst hb; exact (k26 a ha).2.2.2⟩
                              · have ha : a ∈ (D :: acc) ++ [l] := ha
                                rcases List.mem_append.mp ha with ha | ha
                                · exact ⟨(fr2 a ha).1, (k26 a ha).2.1, (k26 a ha).2.2.1⟩
                                · simp at ha
                                  subst ha
                                  exact ⟨nl1, n2, n3⟩
                            · cases e2
                          | _ => cases e2
          | _ => cases e2
      · have ei : i = ds.length := by omega
        subst ei
        rw [List.drop_length] at e2
        cases e2
        refine .inl ⟨sv.stop H2 same, p B2 H2 O2 (.ref D) s3 ?_ (fun i x hx px => ⟨(b3 i x hx px).1, rfl⟩) ⟨D, D :: acc, rfl, ⟨acc, rfl, hA, nd2, hQ⟩, fun a ha => fr2 a ha⟩⟩
        have c9 := c3.wiped (σ' := σ) wl.symm fun j hj => (wo j hj).symm
        rw [clear_wipe k3] at c9
        exact c9
theorem ds_setLcL {lo : Bool} {i : Nat} {y : Str} {py : Pos} {elt tg iter : Expr} {ifs : List Expr} {scope : Scope} {own : List (Str × Nat)} {pos spos : Pos} {mi : M (List D)} {ix : List Nat} {set : D → S} {t : M Bool} {me : M RV} (hc : X.calm = true) (hN : X.N.Nodup) (hy : X.N[i]? = some y) (hyl : X.env.scope.names.lookup y = some .local)
    (hsw : swapsWith (.ListComp elt [⟨tg, iter, ifs, 0⟩] scope pos) (some (.Name y py)) spos.line X.env = pure true) (hi : DI X W lo tg iter mi) (ok : BlkOk X.N X.env.scope scope own)
    (hg : ∀ (s : Shared) (H : Hp) (C : Addr) (cl : List (Str × Addr)) (fp : List Addr), DG (X.blk s H scope (compEnvC scope cl C X.env) fp) lo tg ix set) (ht : ∀ (s : Shared) (H : Hp) (C : Addr) (cl : List (Str × Addr)) (fp : List Addr), DTs (X.blk s H scope (compEnvC scope cl C X.env) fp) W0 ifs t)
    (he : ∀ (s : Shared) (H : Hp) (C : Addr) (cl : List (Str × Addr)) (fp : List Addr), DE (X.blk s H scope (compEnvC scope cl C X.env) fp) W0 elt me) (hix : ∀ j ∈ ix, j ∈ own.map (·.2)) (hs : ∀ x, foldedSetIterable iter X.env x = pure x := by intro _; rfl) :
    DS X W (.Assign [.Name y py] (.ListComp elt [⟨tg, iter, ifs, 0⟩] scope pos) spos) (sSet i (mLcL (own.map (·.2)) mi set t me)) :=
  ds_setG (ps_weak (ps_setLc (g := gD X.K lo ix set) (tt := tG (Cx.g X) W0 t rB) (te := tG (Cx.g X) W0 me (rV (Cx.g X))) hc hN hy hyl hsw hi ok hg ht he hs) fun D σ H h => lcL_read hix h)
end
end DL
end

section
namespace DL
open PySem
def gLen : List Rs → Option RV
  | [.ow (.ll rows)] => some (.val (.int rows.length))
  | [.ow (.dK kvs)] => some (.val (.int kvs.length))
  | [a] => match a.data with
    | some (.list xs) => some (.val (.int xs.length))
    | some (.tuple xs) => some (.val (.int xs.length))
    | some (.str x) => if x.length ≤ lineD then some (.val (.int x.length)) else none
    | _ => none
  | _ => none
def pairsD (xs ys : List D) : List D := List.zipWith (fun x y => .tuple [x, y]) xs ys
/-- zip(a, b): both lists or both tuples -/
def gZip : List Rs → Option (List D)
  | [.fz (.list xs), .fz (.list ys)] => some (pairsD xs ys)
  | [.fz (.tuple xs), .fz (.tuple ys)] => some (pairsD xs ys)
  | _ => none
inductive Ty where
  | int | bool | str | list | tuple | dict
  deriving DecidableEq
/-- isinstance(x, T) -/
def isTy : Ty → D → Option Bool
  | .int, .int _ => some true
  | .int, .bool _ => some true
  | .bool, .bool _ => some true
  | .str, .str _ => some true
  | .list, .list _ => some true
  | .tuple, .tuple _ => some true
  | .dict, .dict (p :: r) => if oneI (p :: r) then some true else none
  | _, .dict (p :: r) => if oneI (p :: r) then some false else none
  | .dict, .dict [] => some true
  | _, _ => some false
def anyTy : List Ty → D → Option Bool
  | [], _ => some false
  | t :: ts, d => match isTy t d with
    | some true => some true
    | some false => anyTy ts d
    | none => none
def mIsi (ts : List Ty) (m : M AV) : M RV := m.bind fun a => fun r => ((look2 r a).bind Rs.data).bind fun d => (anyTy ts d).map fun b => (.ok (.val (.bool b)), r)
/-- all(xs), any(xs) of a list of True, False -/
def boolsD : List D → Option (List Bool)
  | [] => some []
  | .bool b :: r => (boolsD r).map (b :: ·)
  | _ => none
def gAll : List Rs → Option RV
  | [a] => match a.data with
    | some (.list xs) => (boolsD xs).map fun bs => .val (.bool (bs.all id))
    | _ => none
  | _ => none
end DL
end

section
namespace DL
open PySem PySem.Spec PyProof.Rows L2
section
variable {X : Cx} {W : WX}
theorem At.opsL {lo : Bool} {ms : List (M AV)} {g : List Rs → Option (List D)} {B : Hp} {r : Ro} {O : Addr → Prop} {σ : L2.St} {H : Hp} {Q : It → Hp → Prop} (h : At (Cx.g X) W (mOpL g ms) (rI (Cx.g X) lo) B r O σ H Q) :
    At (Cx.g X) W (oL ms) (rL (Cx.g X)) B r O σ H fun vs H1 => ∃ B1 xs ds, Same B1 H1 ∧ Paired (RsR X.K B1 H1) xs vs ∧ g xs = some ds ∧ ∀ J, Serves X.K lo J B1 ds → Q J H1 := by
  refine (h.bind later_rI (R := rL (Cx.g X))).mono ?_
  rintro vs H1 ⟨as, B1, r1, O1, s1, x1, c, o, r', e, p⟩
  simp only at e
  split at e
  · cases e
  · rename_i xs q
    cases q2 : g xs with
    | none => rw [q2] at e; cases e
    | some ds =>
      rw [q2] at e
      cases e
      exact ⟨B1, xs, ds, c.sub, c.looks2_ q x1, q2, fun J sv => p B1 H1 O1 J .refl c .refl sv⟩
theorem okR_of {i : Int} (h : okR i = true) : -(2 ^ 62) ≤ i ∧ i < 2 ^ 62 := by
  unfold okR at h
  simpa using h
theorem di_rng1 {lb : Bool} {tg a : Expr} {p pos : Pos} {ma : M AV} (hg : Gl X "range") (hm : X.mg "range" = none) (ha : DO X W a ma) (hs : starEach [a] X.env = [(false, eval a X.env)] := by rfl) (hs2 : starEach [a] X.env = (false, eval a X.env) :: starEach [] X.env := by rfl) : DI X W lb tg (.Call (.Name "range" p) [a] [] pos) (mOpL gRng1 [ma]) :=
  pi_weak (pi_range1 hg hm (da_cons ha da_nil hs2) hs) fun σ H Q ⟨B, r, O, h⟩ => by
    refine tG.of (h.opsL.mono ?_)
    rintro vs H1 ⟨B1, xs, ds, sb, p, hg, q⟩
    unfold gRng1 at hg
    split at hg
    · rename_i j
      split at hg
      · rename_i hj
        cases hg
        cases p with
        | cons p1 p =>
          cases p
          cases dp_int p1
          obtain ⟨h1, h2⟩ := okR_of hj
          refine ⟨j, rfl, h1, h2, q _ ?_⟩
          have := serves_range (lb := lb) (K := X.K) (B0 := B1) (lo := 0) (hi := j)
          rwa [Int.sub_zero] at this
      · cases hg
    · cases hg
theorem pairs_get {xs ys : List D} {i : Nat} {d : D} (h : (pairsD xs ys)[i]? = some d) : ∃ x y, xs[i]? = some x ∧ ys[i]? = some y ∧ d = .tuple [x, y] := by
  unfold pairsD at h
  rw [List.getElem?_zipWith] at h
  cases q1 : xs[i]? with
  | none => rw [q1] at h; cases h
  | some x =>
    cases q2 : ys[i]? with
    | none => rw [q1, q2] at h; cases h
    | some y =>
      rw [q1, q2] at h
      cases h
      exact ⟨x, y, rfl, rfl, rfl⟩
theorem pairs_len (xs ys : List D) : (pairsD xs ys).length = min xs.length ys.length := by unfold pairsD; exact List.length_zipWith
theorem serves_zipL {K : PySem.W.Frag} {B0 : Hp} {a b : Addr} {xs ys : List V} {ds es : List D} (h1 : SqL K B0 a xs) (h2 : SqL K B0 b ys) (d1 : DqAll K B0 xs ds) (d2 : DqAll K B0 ys es) : Serves K true (Itz K a b) B0 (pairsD ds es) := by
  refine ⟨fun H s => ⟨xs, ys, s.seq h1, s.seq h2, by rw [d1.length, d2.length, pairs_len]; omega⟩, fun i H hi s => ?_, fun i H x H' e he s y B b1 b2 => ?_⟩
  · rw [pairs_len, ← d1.length, ← d2.length] at hi
    exact ⟨xs, ys, xs[i], ys[i], s.seq h1, s.seq h2, List.getElem?_eq_getElem (by omega), List.getElem?_eq_getElem (by omega)⟩
  · obtain ⟨T, x1, y1, rfl, hT, rfl, f1, f2⟩ := y
    obtain ⟨dx, dy, q1, q2, rfl⟩ := pairs_get he
    obtain ⟨v1, g1, g2⟩ := d1.get q1
    obtain ⟨v2, g3, g4⟩ := d2.get q2
    have e1 := f1 xs (s.seq h1)
    have e2 := f2 ys (s.seq h2)
    rw [g1] at e1; cases e1
    rw [g3] at e2; cases e2
    have sm := same_new (o := .tup [x1, y1]) (b2.free hT)
    exact .inr ⟨rfl, T, _, hT, rfl, T, _, _, rfl, rfl, .inl (.inl upd_same), .cons (dp_same (b1.trans sm) g2) (.cons (dp_same (b1.trans sm) g4) .nil)⟩
theorem serves_zipT {K : PySem.W.Frag} {B0 : Hp} {a b : Addr} {xs ys : List V} {ds es : List D} (h1 : SqT K B0 a xs) (h2 : SqT K B0 b ys) (d1 : DqAll K B0 xs ds) (d2 : DqAll K B0 ys es) : Serves K true (RZ.ItzT K a b) B0 (pairsD ds es) := by
  refine ⟨fun H s => ⟨xs, ys, sqt_same s h1, sqt_same s h2, by rw [d1.length, d2.length, pairs_len]; omega⟩, fun i H hi s => ?_, fun i H x H' e he s y B b1 b2 => ?_⟩
  · rw [pairs_len, ← d1.length, ← d2.length] at hi
    exact ⟨xs, ys, xs[i], ys[i], sqt_same s h1, sqt_same s h2, List.getElem?_eq_getElem (by omega), List.getElem?_eq_getElem (by omega)⟩
  · obtain ⟨T, x1, y1, rfl, hT, rfl, f1, f2⟩ := y
    obtain ⟨dx, dy, q1, q2, rfl⟩ := pairs_get he
    obtain ⟨v1, g1, g2⟩ := d1.get q1
    obtain ⟨v2, g3, g4⟩ := d2.get q2
    have e1 := f1 xs (sqt_same s h1)
    have e2 := f2 ys (sqt_same s h2)
    rw [g1] at e1; cases e1
    rw [g3] at e2; cases e2
    have sm := same_new (o := .tup [x1, y1]) (b2.free hT)
    exact .inr ⟨rfl, T, _, hT, rfl, T, _, _, rfl, rfl, .inl (.inl upd_same), .cons (dp_same (b1.trans sm) g2) (.cons (dp_same (b1.trans sm) g4) .nil)⟩
theorem di_zip {elts : List Expr} {kk : Nat} {tpos p pos : Pos} {a b : Expr} {ma mb : M AV} (hg : Gl X "zip") (hm : X.mg "zip" = none) (ha : DO X W a ma) (hb : DO X W b mb)
    (hs : starEach [a, b] X.env = (false, eval a X.env) :: starEach [b] X.env := by rfl) (hs4 : starEach [b] X.env = (false, eval b X.env) :: starEach [] X.env := by rfl) (hpl : (backTo pos (starEach [b] X.env)).any (·.1) = false := by rfl) :
    DI X W true (.Tuple elts kk tpos) (.Call (.Name "zip" p) [a, b] [] pos) (mOpL gZip [ma, mb]) :=
  pi_weak (RZ.pi_zipA hg hm (da_cons ha (da_cons hb da_nil hs4) hs) hs hpl) fun σ H Q ⟨B, r, O, h⟩ => by
    refine tG.of (h.opsL.mono ?_)
    rintro vs H1 ⟨B1, xs, ds, sb, p, hg, q⟩
    unfold gZip at hg
    split at hg
    · cases hg
      cases p with
      | cons p1 p =>
        cases p with
        | cons p2 p =>
          cases p
          obtain ⟨a, xs, rfl, h1, d1⟩ := dp_list p1
          obtain ⟨b, ys, rfl, h2, d2⟩ := dp_list p2
          exact ⟨a, b, xs, ys, rfl, .inl ⟨.of (sb _ _ h1), .of (sb _ _ h2), q _ (serves_zipL (.of h1) (.of h2) d1 d2)⟩⟩
    · cases hg
      cases p with
      | cons p1 p =>
        cases p with
        | cons p2 p =>
          cases p
          obtain ⟨a, xs, rfl, h1, d1⟩ := dp_tuple p1
          obtain ⟨b, ys, rfl, h2, d2⟩ := dp_tuple p2
          exact ⟨a, b, xs, ys, rfl, .inr ⟨(tup_same sb h1).sq, (tup_same sb h2).sq, q _ (serves_zipT h1.sq h2.sq d1 d2)⟩⟩
    · cases hg
def rO : Rl (Option Int) (Option Int) := fun _ _ _ _ _ a b => a = b
theorem later_rO : Later rO := fun _ _ _ _ _ _ _ _ _ h => h
def DP (X : Cx) (W : WX) (e : Option Expr) (m : M (Option Int)) : Prop := PO X e (tG (Cx.g X) W m rO)
theorem dp_none : DP X W none (mBd none) := ⟨fun pins s σ H Q I ⟨B, r, O, h⟩ => po_none.run pins s σ H Q I (h.ret rfl)⟩
theorem dp_some {e : Expr} {m : M AV} (h : DO X W e m) : DP X W (some e) (mBd (some m)) := ⟨fun pins s σ H Q I ⟨B, r, O, g⟩ => (po_some h).run pins s σ H Q I (by
  refine tG.of ((At.bind g later_rO (R := rA (Cx.g X))).mono ?_)
  rintro v H1 ⟨a, B1, r1, O1, s1, x1, c, o, r', e, p⟩
  simp only at e
  split at e
  · rename_i n q
    cases e
    obtain ⟨rs, q1, q2⟩ := Option.bind_eq_some_iff.mp q
    exact ⟨n, rs_int (c.look2_ q1 x1) q2, p B1 H1 O1 _ .refl c .refl rfl⟩
  · cases e)⟩
theorem sIxD_eq (n d : Nat) (o : Option Int) : sIxD n d o = HT.sIx n d o := by cases o <;> rfl
theorem cutD_cut {xs : List V} {lo hi : Option Int} : cutD xs lo hi = cutV xs lo hi := by
  unfold cutD cutV
  rw [sIxD_eq, sIxD_eq]
theorem DqAll.cut {K : PySem.W.Frag} {H : Hp} {vs : List V} {ds : List D} (h : DqAll K H vs ds) (lo hi : Option Int) : DqAll K H (cutV vs lo hi) (cutD ds lo hi) := by
  rw [← cutD_cut]
  unfold cutD
  rw [h.length]
  exact (h.drop _).take _
theorem scrL_eq : ∀ (ns : List Int), scrL (ns.map fun n => (PyData.int n, PyData.none)) = some ns
  | [] => rfl
  | n :: ns => by
    show (scrL (ns.map fun n => (PyData.int n, PyData.none))).map (n :: ·) = _
    rw [scrL_eq ns]
    rfl
theorem scrOf_eq (ns : List Int) : scrOf ((PyData.none, PyData.none) :: ns.map fun n => (PyData.int n, PyData.none)) = some ns := scrL_eq ns
theorem dq_ints {K : PySem.W.Frag} {H : Hp} : ∀ ns : List Int, DqAll K H (ns.map V.int) (ns.map PyData.int)
  | [] => .nil
  | n :: ns => .cons (.int n) (dq_ints ns)
theorem cut_map {α β : Type} (f : α → β) (xs : List α) (lo hi : Option Int) : cutD (xs.map f) lo hi = (cutD xs lo hi).map f := by
  unfold cutD
  rw [List.length_map, List.map_take, List.map_drop]
/-- a[lo:hi] of lists, tuples, the script -/
theorem sl_any {a : Rs} {B H : Hp} {lo hi : Option Int} {v : V} {z : RV} {Q : VK} (sb : Same B H) (h : RsR X.K B H a v) (e : gCut lo hi a = some z) (q : ∀ H' v, Alc X.K B H H' z v → Q v H') : rSlL X.K v lo hi H Q ∨ rSlF X.K v lo hi H Q := by
  unfold gCut at e
  split at e
  · rename_i xs q1
    cases e
    obtain ⟨l, vs, rfl, h1, d1⟩ := rs_list sb h q1
    exact .inl ⟨l, vs, rfl, .of h1, alc_lst q (d1.cut lo hi)⟩
  · rename_i xs q1
    cases e
    obtain ⟨l, vs, rfl, h1, d1⟩ := rs_tuple sb h q1
    refine .inr ⟨l, vs, rfl, h1.sq, fun hw => ?_, fun _ => alc_tup q (d1.cut lo hi)⟩
    have : cutD xs lo hi = xs := by
      unfold cutD
      rw [sIxD_eq, sIxD_eq, ← d1.length, hw.1, hw.2, List.drop_zero, d1.length, Nat.sub_zero]
      exact List.take_length
    rw [this] at q
    cases a with
    | fz d => cases q1; exact alc_val q h
    | ow c => cases c <;> cases q1
  · rename_i kvs q1
    cases q2 : scrOf kvs with
    | none => rw [q2] at e; cases e
    | some ns =>
      rw [q2] at e
      cases e
      cases a with
      | ow c => cases c <;> cases q1
      | fz d =>
        cases q1
        cases h with
        | dic s => cases q2
        | dii s h2 e2 e3 e4 =>
          cases e4
          unfold scrOf at q2
          split at q2
          · cases e3
          · cases q2
        | fn s hd => unfold fnD at hd; cases hd; cases q2
        | @scr l ms d hs hd =>
          have hk : kvs = (PyData.none, PyData.none) :: ms.map fun n => (PyData.int n, PyData.none) := by
            unfold scrD at hd
            cases hd; rfl
          subst hk
          rw [scrOf_eq] at q2
          cases q2
          refine .inl ⟨l, _, rfl, sb.seq hs, alc_lst q ?_⟩
          rw [← cutD_cut, cut_map]
          exact dq_ints _
  · cases e
theorem de_slice {a : Expr} {lo hi : Option Expr} {p2 pos : Pos} {ma : M AV} {ml mh : Option (M AV)} (ha : DO X W a ma) (hl : DP X W lo (mBd ml)) (hh : DP X W hi (mBd mh)) : DE X W (.Subscript a (.Slice lo hi none p2) pos) (mSl ma ml mh) :=
  pe_weak (pe_slice (SlR.or sl_list fsl_tup) ha hl hh) fun σ H Q ⟨B, r, O, h⟩ => by
    refine tG.of ((h.bind later_rV (R := rA (Cx.g X))).mono ?_)
    rintro v H1 ⟨a, B1, r1, O1, s1, x1, h1⟩
    refine tG.of ((h1.bind later_rV (R := rO)).mono ?_)
    rintro l H2 ⟨l', B2, r2, O2, s2, rfl, h2⟩
    refine tG.of ((h2.bind later_rV (R := rO)).mono ?_)
    rintro u H3 ⟨u', B3, r3, O3, s3, rfl, c, o, r', e, p⟩
    simp only at e
    cases q : (look2 r3 a).bind (gCut l' u') with
    | none => rw [q] at e; cases e
    | some z =>
      rw [q] at e
      cases e
      obtain ⟨rs, q1, q2⟩ := Option.bind_eq_some_iff.mp q
      have x3 := (AvR.same (s2.sB.trans s3.sB) x1)
      refine sl_any c.sub (c.look2_ q1 x3) q2 fun H' v al => ?_
      obtain ⟨B', s, c', rv⟩ := c.alc al
      exact p B' H' O3 v s c' .refl rv
end
end DL
end

section
namespace DL
open PySem PySem.Spec PyProof.Rows L2
section
variable {X : Cx} {W : WX}
theorem cd_len : CallD X (.builtin "len") gLen := by
  intro pins s σ H vs us Q I r ⟨B, as, z, sb, p, hg, q⟩
  unfold gLen at hg
  split at hg
  · rename_i rows
    cases hg
    cases p with
    | cons p1 p =>
      cases p
      obtain ⟨l, F, rfl, as, rfl, g1, _, g2⟩ := p1
      exact call_len_seq pins s σ H _ us Q I r ⟨l, _, rfl, .inl (.of g1), by rw [List.length_map, g2.length]; exact alc_val q (.int _)⟩
  · rename_i kvs
    cases hg
    cases p with
    | cons p1 p =>
      cases p
      obtain ⟨l, F, rfl, rfl, vs, g1, g2⟩ := p1
      exact call_lenD pins s σ H _ us Q I r ⟨l, vs, rfl, g1, by rw [show vs.length = kvs.length from g2.length]; exact alc_val q (.int _)⟩
  · rename_i a
    cases p with
    | cons p1 p =>
      cases p
      split at hg
      · rename_i xs e
        cases hg
        obtain ⟨l, ms, rfl, g1, g2⟩ := rs_list sb p1 e
        exact call_len_seq pins s σ H _ us Q I r ⟨l, ms, rfl, .inl (.of g1), by rw [g2.length]; exact alc_val q (.int _)⟩
      · rename_i xs e
        cases hg
        obtain ⟨l, ms, rfl, g1, g2⟩ := rs_tuple sb p1 e
        exact call_len_seq pins s σ H _ us Q I r ⟨l, ms, rfl, .inr g1.sq, by rw [g2.length]; exact alc_val q (.int _)⟩
      · rename_i x e
        split at hg
        · rename_i hl
          cases hg
          cases rs_str p1 e
          exact call_len_str pins s σ H _ us Q I r ⟨x, rfl, by rw [← line_eq]; exact hl, alc_val q (.int _)⟩
        · cases hg
      · cases hg
  · cases hg
theorem bools_dq {K : PySem.W.Frag} {H : Hp} : ∀ {ds : List D} {bs : List Bool} {vs : List V}, boolsD ds = some bs → DqAll K H vs ds → vs = bs.map V.bl
  | [], _, _, h, d => by cases h; cases d; rfl
  | .bool i :: ds, ns, _, h, d => by
    cases d with
    | cons h1 t =>
      simp only [boolsD] at h
      cases q : boolsD ds with
      | none => rw [q] at h; cases h
      | some ms =>
        rw [q] at h
        cases h
        rw [dp_bl h1, bools_dq q t]
        rfl
  | .none :: _, _, _, h, _ => by cases h
  | .int _ :: _, _, _, h, _ => by cases h
  | .str _ :: _, _, _, h, _ => by cases h
  | .list _ :: _, _, _, h, _ => by cases h
  | .tuple _ :: _, _, _, h, _ => by cases h
  | .dict _ :: _, _, _, h, _ => by cases h
theorem cd_all (hc : X.calm = true) : CallD X (.builtin "all") gAll := by
  intro pins s σ H vs us Q I r ⟨B, as, z, sb, p, hg, q⟩
  unfold gAll at hg
  split at hg
  · split at hg
    · rename_i xs e
      cases q1 : boolsD xs with
      | none => rw [q1] at hg; cases hg
      | some bs =>
        rw [q1] at hg
        cases hg
        cases p with
        | cons p1 p =>
          cases p
          obtain ⟨l, ms, rfl, g1, g2⟩ := rs_list sb p1 e
          have := bools_dq q1 g2
          subst this
          exact cr_all hc pins s σ H _ us Q I r ⟨l, bs, rfl, .of g1, alc_val q (.bl _)⟩
    · cases hg
  · cases hg
def tyN : Ty → String
  | .int => "int"
  | .bool => "bool"
  | .str => "str"
  | .list => "list"
  | .tuple => "tuple"
  | .dict => "dict"
theorem isTy_pl {t : Ty} {d : D} {b : Bool} (h : isTy t d = some b) : (isTy .int d).isSome = true := by
  cases d with
  | dict kvs =>
    cases kvs with
    | nil => rfl
    | cons p r =>
      by_cases q : oneI (p :: r) = true
      · simp [isTy, q]
      · cases t <;> simp [isTy, q] at h
  | _ => rfl
theorem isTy_dict {kvs : List (D × D)} (h : (isTy .int (.dict kvs)).isSome = true) : kvs = [] ∨ ∃ p r, kvs = p :: r ∧ oneI (p :: r) = true := by
  cases kvs with
  | nil => exact .inl rfl
  | cons p r =>
    by_cases q : oneI (p :: r) = true
    · exact .inr ⟨p, r, rfl, q⟩
    · simp [isTy, q] at h
theorem isTy_kit {K : PySem.W.Frag} {B H : Hp} {d : D} {a : Rs} {v : V} (sb : Same B H) (h : RsR K B H a v) (e : a.data = some d) (hd : (isTy .int d).isSome = true) : ∃ T : String, TyX K H v (.type T) ∧ ∀ (t : Ty) b, isTy t d = some b → PySem.W.kitOne K (.type T) (.type (tyN t)) = some b := by
  cases d with
  | none =>
    have : v = .non := by
      cases a with
      | fz d => cases e; exact dp_non h
      | ow c => cases c <;> cases e
    subst this
    refine ⟨"NoneType", .base .non, fun t b ht => ?_⟩
    cases t <;> cases ht <;> exact kit_ty (by decide +kernel)
  | bool x =>
    have : v = .bl x := by
      cases a with
      | fz d => cases e; exact dp_bl h
      | ow c => cases c <;> cases e
    subst this
    refine ⟨"bool", .base (.bl x), fun t b ht => ?_⟩
    cases t <;> cases ht <;> exact kit_ty (by decide +kernel)
  | int x =>
    cases rs_int h e
    refine ⟨"int", .base (.int x), fun t b ht => ?_⟩
    cases t <;> cases ht <;> exact kit_ty (by decide +kernel)
  | str x =>
    cases rs_str h e
    refine ⟨"str", .base (.str x), fun t b ht => ?_⟩
    cases t <;> cases ht <;> exact kit_ty (by decide +kernel)
  | list x =>
    obtain ⟨l, ms, rfl, g1, g2⟩ := rs_list sb h e
    refine ⟨"list", .base (.lst g1), fun t b ht => ?_⟩
    cases t <;> cases ht <;> exact kit_ty (by decide +kernel)
  | tuple x =>
    obtain ⟨l, ms, rfl, ⟨o, _, g1⟩, g2⟩ := rs_tuple sb h e
    refine ⟨"tuple", .fTuple g1, fun t b ht => ?_⟩
    cases t <;> cases ht <;> exact kit_ty (by decide +kernel)
  | dict x =>
    rcases isTy_dict hd with rfl | ⟨p0, r0, rfl, hone⟩
    · have : ∃ l kvs, v = .ref l ∧ H l = some (.dK kvs) := by
        cases a with
        | fz d =>
          cases e
          have h : Dq K B v (.dict []) := h
          generalize hd : (PyData.dict [] : D) = d at h
          cases h with
          | scr s h => rw [h] at hd; cases hd
          | fn s h => rw [h] at hd; cases hd
          | dic s => exact ⟨_, _, rfl, sb _ _ s⟩
          | dii s => exact ⟨_, _, rfl, sb _ _ s⟩
          | _ => cases hd
        | ow c => cases c <;> cases e
      obtain ⟨l, kvs, rfl, g1⟩ := this
      refine ⟨"dict", .base (.dK g1), fun t b ht => ?_⟩
      cases t <;> cases ht <;> exact kit_ty (by decide +kernel)
    · have : ∃ l kvs, v = .ref l ∧ H l = some (.dK kvs) := by
        cases a with
        | fz d =>
          cases e
          have h : Dq K B v (.dict (p0 :: r0)) := h
          generalize hd : (PyData.dict (p0 :: r0) : D) = d at h
          cases h with
          | scr s h => rw [h] at hd; unfold scrD at hd; cases hd; cases hone
          | fn s h => rw [h] at hd; unfold fnD at hd; cases hd; cases hone
          | dic s => exact ⟨_, _, rfl, sb _ _ s⟩
          | dii s => exact ⟨_, _, rfl, sb _ _ s⟩
          | _ => cases hd
        | ow c => cases c <;> cases e
      obtain ⟨l, kvs, rfl, g1⟩ := this
      refine ⟨"dict", .base (.dK g1), fun t b ht => ?_⟩
      cases t <;> (simp only [isTy, hone, if_true] at ht; cases ht; exact kit_ty (by decide +kernel))
/-- isinstance(e, T) -/
theorem de_isi {t : Ty} {e : Expr} {T : Str} {p p2 pos : Pos} {m : M AV} (hg : Gl X "isinstance") (hm : X.mg "isinstance" = none) (hT : Gl X T) (mT : X.mg T = none) (he : DO X W e m) (hvT : bootBuiltins T = some (.type (tyN t))) (nT : T ≠ "__name__" := by decide) (dT : (T == ("__debug__" : Str)) = false := by decide)
    (h1 : starEach [e, .Name T p2] X.env = (false, eval e X.env) :: starEach [.Name T p2] X.env := by rfl) (h2 : starEach [.Name T p2] X.env = (false, eval (.Name T p2) X.env) :: starEach [] X.env := by rfl)
    (hpl : (backTo pos (starEach [.Name T p2] X.env)).any (·.1) = false := by rfl) (hv : bootBuiltins "isinstance" = some (.builtin "isinstance") := by decide +kernel) :
    DE X W (.Call (.Name "isinstance" p) [e, .Name T p2] [] pos) (mIsi [t] m) :=
  pe_weak (pe_callB call_isi hg hm hv (pa_cons he (pa_cons (pe_bltn hT mT hvT (v := .ty (tyN t)) rfl nT dT) pa_nil h2) h1) (by decide) (by decide) h1 hpl) fun σ H Q ⟨B, r, O, h⟩ => by
    refine tG.of ((h.bind later_rV (R := rA (Cx.g X))).mono ?_)
    rintro x H1 ⟨a, B1, r1, O1, s1, x1, c, o, r', e, p⟩
    simp only at e
    cases q : (look2 r1 a).bind Rs.data with
    | none => rw [q] at e; cases e
    | some d =>
      rw [q] at e
      simp only [Option.bind_some, anyTy] at e
      obtain ⟨rs, q3, q4⟩ := Option.bind_eq_some_iff.mp q
      cases q5 : isTy t d with
      | none => rw [q5] at e; cases e
      | some b =>
        rw [q5] at e
        obtain ⟨TT, k1, k2⟩ := isTy_kit c.sub (c.look2_ q3 x1) q4 (isTy_pl q5)
        have k2 := k2 t b q5
        refine ⟨x, .ty (tyN t), _, _, b, rfl, .ty _, k1, k2, ?_⟩
        cases b with
        | true => cases e; exact p B1 H1 O1 _ .refl c .refl (.bl _)
        | false => cases e; exact p B1 H1 O1 _ .refl c .refl (.bl _)
/-- isinstance(e, (T1, T2)) -/
theorem de_isi2 {t t2 : Ty} {e : Expr} {T T2 : Str} {p p2 p3 p4 pos : Pos} {k : Nat} {m : M AV} (hg : Gl X "isinstance") (hm : X.mg "isinstance" = none) (hT : Gl X T) (mT : X.mg T = none) (hT2 : Gl X T2) (mT2 : X.mg T2 = none) (he : DO X W e m) (hvT : bootBuiltins T = some (.type (tyN t))) (hvT2 : bootBuiltins T2 = some (.type (tyN t2)))
    (nT : T ≠ "__name__" := by decide) (dT : (T == ("__debug__" : Str)) = false := by decide) (nT2 : T2 ≠ "__name__" := by decide) (dT2 : (T2 == ("__debug__" : Str)) = false := by decide)
    (h1 : starEach [e, .Tuple [.Name T p2, .Name T2 p3] k p4] X.env = (false, eval e X.env) :: starEach [.Tuple [.Name T p2, .Name T2 p3] k p4] X.env := by rfl) (h2 : starEach [.Tuple [.Name T p2, .Name T2 p3] k p4] X.env = (false, eval (.Tuple [.Name T p2, .Name T2 p3] k p4) X.env) :: starEach [] X.env := by rfl)
    (h3 : starEach [.Name T p2, .Name T2 p3] X.env = (false, eval (.Name T p2) X.env) :: starEach [.Name T2 p3] X.env := by rfl) (h4 : starEach [.Name T2 p3] X.env = (false, eval (.Name T2 p3) X.env) :: starEach [] X.env := by rfl)
    (hpl : (backTo pos (starEach [.Tuple [.Name T p2, .Name T2 p3] k p4] X.env)).any (·.1) = false := by rfl) (hv : bootBuiltins "isinstance" = some (.builtin "isinstance") := by decide +kernel) :
    DE X W (.Call (.Name "isinstance" p) [e, .Tuple [.Name T p2, .Name T2 p3] k p4] [] pos) (mIsi [t, t2] m) :=
  pe_weak (pe_callB call_isiT hg hm hv (pa_cons he (pa_cons (pe_tup (pa_cons (pe_bltn hT mT hvT (v := .ty (tyN t)) rfl nT dT) (pa_cons (pe_bltn hT2 mT2 hvT2 (v := .ty (tyN t2)) rfl nT2 dT2) pa_nil h4) h3)) pa_nil h2) h1) (by decide) (by decide) h1 hpl) fun σ H Q ⟨B, r, O, h⟩ => by
    refine tG.of ((h.bind later_rV (R := rA (Cx.g X))).mono ?_)
    rintro x H1 ⟨a, B1, r1, O1, s1, x1, c, o, r', e, p⟩
    simp only at e
    refine ⟨by show 2 ≤ sizeLine; decide, fun pt hpt => ?_⟩
    obtain ⟨_, _, c2, s2⟩ := c.lay (o := .tup [.ty (tyN t), .ty (tyN t2)]) hpt
    cases q : (look2 r1 a).bind Rs.data with
    | none => rw [q] at e; cases e
    | some d =>
      rw [q] at e
      simp only [Option.bind_some, anyTy] at e
      obtain ⟨rs, q3, q4⟩ := Option.bind_eq_some_iff.mp q
      have x2 : AvR X.K B1 σ a x := x1
      cases q5 : isTy t d with
      | none => rw [q5] at e; cases e
      | some b =>
        rw [q5] at e
        obtain ⟨TT, k1, k2⟩ := isTy_kit c2.sub (c2.look2_ q3 x2) q4 (isTy_pl q5)
        have any2 : ∀ b', (match (some b : Option Bool) with | some true => some true | some false => PySem.W.kitAny X.K (.type TT) [.type (tyN t2)] | none => none) = some b' → PySem.W.kitAny X.K (.type TT) [.type (tyN t), .type (tyN t2)] = some b' := fun b' z => by
          unfold PySem.W.kitAny
          rw [k2 t b q5]
          exact z
        cases b with
        | true =>
          cases e
          exact ⟨x, pt, _, _, _, true, rfl, upd_same, .cons (.ty _) (.cons (.ty _) .nil), k1, any2 true rfl, p B1 _ O1 _ s2 c2 .refl (.bl _)⟩
        | false =>
          simp only at e
          cases q6 : isTy t2 d with
          | none => rw [q6] at e; cases e
          | some b2 =>
            rw [q6] at e
            have k4 : PySem.W.kitAny X.K (.type TT) [.type (tyN t2)] = some b2 := by
              unfold PySem.W.kitAny
              rw [k2 t2 b2 q6]
              cases b2 <;> rfl
            cases b2 with
            | true =>
              cases e
              exact ⟨x, pt, _, _, _, true, rfl, upd_same, .cons (.ty _) (.cons (.ty _) .nil), k1, any2 true k4, p B1 _ O1 _ s2 c2 .refl (.bl _)⟩
            | false =>
              cases e
              exact ⟨x, pt, _, _, _, false, rfl, upd_same, .cons (.ty _) (.cons (.ty _) .nil), k1, any2 false k4, p B1 _ O1 _ s2 c2 .refl (.bl _)⟩
end
end DL
end

section
namespace DL
open PySem
def putD {κ : Type} [DecidableEq κ] (kvs : List (κ × D)) (k : κ) (v : D) : List (κ × D) :=
  if kvs.any (fun kv => decide (kv.1 = k)) = true then kvs.map fun kv => if kv.1 = k then (kv.1, v) else kv else kvs ++ [(k, v)]
def valD {κ : Type} [DecidableEq κ] (kvs : List (κ × D)) (k : κ) : Option D := (kvs.find? fun kv => decide (kv.1 = k)).map (·.2)
def keyAt (r : Ro) (a : AV) : Option Ky := ((look2 r a).bind Rs.data).bind kyOf
end DL
end

section
namespace DL
open PySem PySem.Spec PyProof.Rows L2
section
variable {K : PySem.W.Frag} {B H : Hp}
theorem key_kV {a : Rs} {v : V} {k : Ky} (h : RsR K B H a v) (e : a.data.bind kyOf = some k) : v = kV k := by
  obtain ⟨d, e1, e2⟩ := Option.bind_eq_some_iff.mp e
  cases d with
  | int i => cases e2; exact rs_int h e1
  | str x => cases e2; exact rs_str h e1
  | _ => cases e2
end
section
variable {X : Cx} {W : WX}
theorem keyAt_of {K : PySem.W.Frag} {B H : Hp} {σ : L2.St} {r : Ro} {O : Addr → Prop} (c : Con K B H σ r O) {a : AV} {k : Ky} {v : V} (h : keyAt r a = some k) (x : AvR K B σ a v) : v = kV k := by
  unfold keyAt at h
  obtain ⟨d, e1, e2⟩ := Option.bind_eq_some_iff.mp h
  obtain ⟨rs, e3, e4⟩ := Option.bind_eq_some_iff.mp e1
  exact key_kV (c.look2_ e3 x) (by rw [e4]; exact e2)
end
end DL
end

section
namespace DL
open PySem
end DL
end

section
namespace DL
open PySem PySem.Spec PyProof.Rows L2
section
variable {prog : Program} {w : World} {A : Around} {E : Value → Shared → Prop} {s : Shared}
end
section
variable {X : Cx} {W : WX}
end
end DL
end

section
namespace DL
open PySem
/-- data of small depth that can be laid -/
def okE (d : D) : Bool := d.canLay0 && decide (d.depth ≤ 40)
def srtD (ds : List D) : List D := ds.mergeSort (W.dataLe false id)
def mmOk (ds : List D) : Bool := ds.all okE && (ds.all fun d => ds.all fun e => W.alike d e) && ds.all fun d => match d with | .none => false | _ => true
def gMinL : List Rs → Option RV
  | [a] => match a.data.bind rowOf with
    | some (x :: xs) => if mmOk (x :: xs) then some (.val (W.minD x xs)) else none
    | _ => none
  | _ => none
def gMaxL : List Rs → Option RV
  | [a] => match a.data.bind rowOf with
    | some (x :: xs) => if mmOk (x :: xs) then some (.val (W.maxD x xs)) else none
    | _ => none
  | _ => none
end DL
end

section
namespace DL
open PySem PySem.Spec PySem.Calls PyProof.Rows L2
open PySem.W (EachIs AllAlike Sortable alike dataLt dataLe SortsAt dataKind)
section
variable {prog : Program} {w : World} {A : Around} {E : Value → Shared → Prop} {s : Shared}
end
end DL
end

section
namespace DL
open PySem PySem.Spec PySem.Calls PyProof.Rows L2
open PySem.W (EachIs AllAlike Sortable alike dataLt dataLe SortsAt dataKind)
section
variable {prog : Program} {w : World} {A : Around} {E : Value → Shared → Prop} {s : Shared}
end
theorem okE_lay {d : D} (h : okE d = true) : d.canLay0 = true := (Bool.and_eq_true_iff.mp h).1
theorem okE_dep {d : D} (h : okE d = true) : d.depth ≤ 40 := of_decide_eq_true (Bool.and_eq_true_iff.mp h).2
section
variable {X : Cx} {W : WX}
end
end DL
end

section
namespace DL
open PySem PySem.Spec PySem.Calls PyProof.Rows L2
open PySem.W (EachIs alike dataLt)
section
variable {X : Cx} {W : WX}
theorem lay_all {ds : List D} (h : ∀ d ∈ ds, okE d = true) : PyData.canLayAll0 ds = true ∧ PyData.depthAll ds ≤ 40 := by
  induction ds with
  | nil => exact ⟨by simp [PyData.canLayAll0], by simp [PyData.depthAll]⟩
  | cons d ds ih =>
    obtain ⟨h1, h2⟩ := ih fun e he => h e (by simp [he])
    have h3 := h d (by simp)
    have h4 := okE_dep h3
    exact ⟨by simp only [PyData.canLayAll0, okE_lay h3, h1, Bool.and_self], by simp only [PyData.depthAll]; omega⟩
theorem dqa_reads {pins : List (Addr × Obj)} {σ : L2.St} {H : Hp} {s : Shared} {ms : List V} {its : List Value} {ds : List D} (I : Inv X pins σ H s) (d : DqAll X.K H ms ds) (r : Vals ms its) (h : ∀ d ∈ ds, okE d = true) : ∃ as, ReadsAll s.heap its ds as :=
  Dp.readsAll I ds ms its (dqa_dpa d (lay_all h).1) r
/-- a row looked at -/
theorem row_at {pins : List (Addr × Obj)} {σ : L2.St} {B H : Hp} {s : Shared} (I : Inv X pins σ H s) (sb : Same B H) {a : Rs} {w : V} {ds : List D} (p1 : RsR X.K B H a w) (e : a.data.bind rowOf = some ds) :
    ∃ l ms its, w = V.ref l ∧ (s.heap.IsList l its.toArray ∨ s.heap.IsTuple l its.toArray) ∧ Vals ms its ∧ DqAll X.K B ms ds ∧ ms.length ≤ sizeLine := by
  obtain ⟨d, e1, e2⟩ := Option.bind_eq_some_iff.mp e
  rcases row_of e2 with rfl | rfl
  · obtain ⟨l, ms, ev, g1, g2⟩ := rs_list sb p1 e1
    obtain ⟨its, rv, hl, hz⟩ := I.list (SqL.of (K := X.K) g1)
    exact ⟨l, ms, its, ev, .inl hl.isList, rv, g2, hz⟩
  · obtain ⟨l, ms, ev, g1, g2⟩ := rs_tuple sb p1 e1
    obtain ⟨its, rv, hl, hz⟩ := I.tuple (g1.sq (K := X.K))
    refine ⟨l, ms, its, ev, .inr ?_, rv, g2, hz⟩
    obtain ⟨o, ho, hc, n, hd⟩ := hl
    exact ⟨o, ho, hc, n, hd⟩
theorem all_ok {ds : List D} (h : ds.all okE = true) : ∀ d ∈ ds, okE d = true := fun d hd => List.all_eq_true.mp h d hd
theorem dqa_same {K : PySem.W.Frag} {B H : Hp} (sb : Same B H) {ms : List V} {ds : List D} (d : DqAll K B ms ds) : DqAll K H ms ds := dpa_same sb d
theorem mm_of {ds : List D} (h : mmOk ds = true) : (∀ d ∈ ds, okE d = true) ∧ PySem.W.AlikeAll ds := by
  simp only [mmOk, Bool.and_eq_true] at h
  obtain ⟨⟨o1, o2⟩, o3⟩ := h
  refine ⟨all_ok o1, fun d hd e he => List.all_eq_true.mp (List.all_eq_true.mp o2 d hd) e he, fun d hd => ?_⟩
  have := List.all_eq_true.mp o3 d hd
  rintro rfl
  cases this
/-- the item that was told -/
theorem mm_item {pins : List (Addr × Obj)} {σ : L2.St} {B H : Hp} {s : Shared} (I : Inv X pins σ H s) (sb : Same B H) {ms : List V} {its : List Value} {ds : List D} {d : D} (rv : Vals ms its) (dq : DqAll X.K B ms ds) (hok : ∀ d ∈ ds, okE d = true) (hal : ∀ e ∈ ds, alike e d = true)
    {i : Nat} {v : Value} {h' : Heap} {bs : List Addr} (hv : its.toArray[i]? = some v) (r : Reads h' v d bs) (hk : ∀ b o, s.heap.get? b = some o → h'.get? b = some o) : ∃ y, RelV y v ∧ Dq X.K B y d := by
  have hv : its[i]? = some v := by simpa using hv
  have hi : i < its.length := (List.getElem?_eq_some_iff.mp hv).1
  have hm : i < ms.length := by rw [rv.length]; exact hi
  obtain ⟨u, hu, ru⟩ := rv.get (i := i) (x := ms[i]) (List.getElem?_eq_getElem hm)
  rw [hv] at hu; cases hu
  have hd : i < ds.length := by rw [← dq.length]; exact hm
  obtain ⟨w, hw, dw⟩ := dq.get (i := i) (d := ds[i]) (List.getElem?_eq_getElem hd)
  rw [List.getElem?_eq_getElem hm] at hw; cases hw
  have hmem : ds[i] ∈ ds := List.getElem_mem hd
  obtain ⟨as, r2⟩ := Dp.reads I ds[i] ms[i] v (dq_dp (dp_same sb dw) (okE_lay (hok _ hmem))) ru
  have r3 := PySem.W.reads_keeps hk r2
  have := PySem.W.alike_unique _ _ _ _ _ (hal _ hmem) r3 r
  rw [← this]
  exact ⟨ms[i], ru, dw⟩
theorem minD_mem : ∀ (xs : List D) (x : D), PySem.W.minD x xs ∈ x :: xs := by
  intro xs
  unfold PySem.W.minD
  induction xs with
  | nil => intro x; simp
  | cons y ys ih =>
    intro x
    rw [List.foldl_cons]
    have := ih (if dataLt y x then y else x)
    split at this <;> rename_i hc <;> simp only [hc, if_true, if_false, List.mem_cons] at this ⊢ <;> grind
theorem maxD_mem : ∀ (xs : List D) (x : D), PySem.W.maxD x xs ∈ x :: xs := by
  intro xs
  unfold PySem.W.maxD
  induction xs with
  | nil => intro x; simp
  | cons y ys ih =>
    intro x
    rw [List.foldl_cons]
    have := ih (if dataLt x y then y else x)
    split at this <;> rename_i hc <;> simp only [hc, if_true, if_false, List.mem_cons] at this ⊢ <;> grind
theorem cd_minL (hc : X.calm = true) (hu : X.A.units + 64 < cLine) : CallD X (.builtin "min") gMinL := by
  intro pins s σ H vs us Q I r ⟨B, as, z, sb, p, hg, q⟩
  unfold gMinL at hg
  split at hg
  · split at hg
    · rename_i x xs e
      split at hg
      · rename_i hok
        cases hg
        cases p with
        | cons p1 p =>
          cases p
          obtain ⟨l, ms, its, rfl, hl, rv, dq, hz⟩ := row_at I sb p1 e
          cases Vals.ref1 r
          obtain ⟨ok, hal⟩ := mm_of hok
          obtain ⟨bs, hr⟩ := dqa_reads I (dqa_same sb dq) rv ok
          have hroom : X.A.units + 1 + PyData.depthAll (x :: xs) < cLine := by have := (lay_all ok).2; omega
          have fin : ∀ (i : Nat) v h' tk bs, its.toArray[i]? = some v → Reads h' v (PySem.W.minD x xs) bs → (∀ b o, s.heap.get? b = some o → h'.get? b = some o) → EP X pins σ Q v { s with heap := h', toks := tk } := fun i v h' tk bs hv r hk => by
            obtain ⟨y, ry, dy⟩ := mm_item I sb rv dq ok (fun e he => hal.1 e he _ (minD_mem _ _)) hv r hk
            exact ⟨y, H, I.kept hk, ry, alc_val q dy⟩
          rcases hl with hl | hl
          · exact PySem.W.min_list_data (I.ok.hd hc) hl (by simpa using hr) hal hroom fin
          · exact PySem.W.min_tuple_data (I.ok.hd hc) hl (by simpa using hr) hal hroom fin
      · cases hg
    · cases hg
  · cases hg
theorem cd_maxL (hc : X.calm = true) (hu : X.A.units + 64 < cLine) : CallD X (.builtin "max") gMaxL := by
  intro pins s σ H vs us Q I r ⟨B, as, z, sb, p, hg, q⟩
  unfold gMaxL at hg
  split at hg
  · split at hg
    · rename_i x xs e
      split at hg
      · rename_i hok
        cases hg
        cases p with
        | cons p1 p =>
          cases p
          obtain ⟨l, ms, its, rfl, hl, rv, dq, hz⟩ := row_at I sb p1 e
          cases Vals.ref1 r
          obtain ⟨ok, hal⟩ := mm_of hok
          obtain ⟨bs, hr⟩ := dqa_reads I (dqa_same sb dq) rv ok
          have hroom : X.A.units + 1 + PyData.depthAll (x :: xs) < cLine := by have := (lay_all ok).2; omega
          have fin : ∀ (i : Nat) v h' tk bs, its.toArray[i]? = some v → Reads h' v (PySem.W.maxD x xs) bs → (∀ b o, s.heap.get? b = some o → h'.get? b = some o) → EP X pins σ Q v { s with heap := h', toks := tk } := fun i v h' tk bs hv r hk => by
            obtain ⟨y, ry, dy⟩ := mm_item I sb rv dq ok (fun e he => hal.1 e he _ (maxD_mem _ _)) hv r hk
            exact ⟨y, H, I.kept hk, ry, alc_val q dy⟩
          rcases hl with hl | hl
          · exact PySem.W.max_list_data (I.ok.hd hc) hl (by simpa using hr) hal hroom fin
          · exact PySem.W.max_tuple_data (I.ok.hd hc) hl (by simpa using hr) hal hroom fin
      · cases hg
    · cases hg
  · cases hg
end
end DL
end

section
namespace DL
open PySem
end DL
end

section
namespace DL
open PySem
/-- an operand as data that stands still for a while -/
def Ct.view : Ct → Option D
  | .lst ds => some (.list ds)
  | .ll rows => some (.list (rows.map .list))
  | _ => none
def Rs.view : Rs → Option Rs
  | .fz d => some (.fz d)
  | .ow c => c.view.map .fz
def flatD : D → Bool
  | .none => true
  | .bool _ => true
  | .int _ => true
  | .str _ => true
  | _ => false
/-- a call that looks at its arguments and answers a number, a truth, a text or None -/
def mPeek (f : Sem) (ms : List (M AV)) : M RV := (oL ms).bind fun as => fun r => match (looks2 r as).bind (fun xs => xs.mapM Rs.view) with
  | none => none
  | some xs => match f xs with
    | some (.ok (.val d), ys) => if flatD d && decide (ys.length = xs.length) then some (.ok (.val d), r) else none
    | _ => none
end DL
end

section
namespace DL
open PySem
end DL
end

section
namespace DL
open PySem PySem.Spec PySem.Calls PyProof.Rows L2
open PySem.Sem (wp)
section
variable {prog : Program} {w : World} {A : Around} {E : Value → Shared → Prop} {s : Shared}
end
section
variable {prog : Program} {w : World} {A : Around} {E : Value → Shared → Prop} {s : Shared}
end
section
variable {X : Cx} {W : WX}
end
end DL
end

section
namespace DL
open PySem PySem.Spec PySem.Calls PyProof.Rows L2
section
variable {X : Cx} {W : WX}
end
end DL
end

section
namespace DL
open PySem PySem.Spec PySem.Calls PyProof.Rows L2
section
variable {X : Cx} {W : WX}
theorem dqa_lists {K : PySem.W.Frag} {B H : Hp} (sb : Same B H) : ∀ {as : List Addr} {rows : List (List D)}, RowsAt K B H as rows → DqAll K H (as.map V.ref) (rows.map .list)
  | _, _, .nil => .nil
  | _, _, .cons h t => by
    obtain ⟨vs, h1, h2⟩ := h
    exact .cons (.lst h1 (dpa_same sb h2)) (dqa_lists sb t)
theorem view_dq {K : PySem.W.Frag} {B H : Hp} {c : Ct} {d : D} {l : Addr} {F : List Addr} (sb : Same B H) (o : OwnR K B H c l F) (e : c.view = some d) : Dq K H (.ref l) d := by
  cases c with
  | lst ds =>
    cases e
    obtain ⟨rfl, vs, e1, h1⟩ := o
    exact .lst e1 (dpa_same sb h1)
  | ll rows =>
    cases e
    obtain ⟨as, rfl, h2, nd, ra⟩ := o
    exact .lst h2 (dqa_lists sb ra)
  | dK _ => cases e
  | dT _ => cases e
  | dl _ => cases e
  | tab _ _ => cases e
theorem views_dq {K : PySem.W.Frag} {B H : Hp} (sb : Same B H) : ∀ {xs : List Rs} {ys : List Rs} {vs : List V}, Paired (RsR K B H) xs vs → xs.mapM Rs.view = some ys → Paired (RsR K H H) ys vs ∧ ∀ y ∈ ys, ∃ d, y = .fz d
  | [], ys, _, .nil, e => by
    simp at e
    subst e
    exact ⟨.nil, fun y h => nomatch h⟩
  | x :: xs, ys, _, .cons h t, e => by
    rw [List.mapM_cons] at e
    obtain ⟨y, e1, e2⟩ := Option.bind_eq_some_iff.mp e
    obtain ⟨zs, e3, e4⟩ := Option.bind_eq_some_iff.mp e2
    cases e4
    obtain ⟨p, q⟩ := views_dq sb t e3
    cases x with
    | fz d =>
      cases e1
      exact ⟨.cons (dp_same sb h) p, fun y hy => (List.mem_cons.mp hy).elim (fun z => ⟨_, z⟩) (q y)⟩
    | ow c =>
      obtain ⟨d, e5, e6⟩ := Option.map_eq_some_iff.mp e1
      subst e6
      obtain ⟨l, F, rfl, o⟩ := h
      exact ⟨.cons (view_dq sb o e5) p, fun y hy => (List.mem_cons.mp hy).elim (fun z => ⟨_, z⟩) (q y)⟩
theorem flat_dq {K : PySem.W.Frag} {B B' : Hp} {v : V} {d : D} (h : Dq K B v d) (f : flatD d = true) : Dq K B' v d := by
  cases h with
  | non => exact .non
  | bl b => exact .bl b
  | int i => exact .int i
  | str x => exact .str x
  | lst _ _ => cases f
  | tup _ _ => cases f
  | scr _ e => subst e; cases f
  | fn _ e => subst e; cases f
  | dic _ => cases f
  | dii _ _ _ _ e => subst e; cases f
theorem con_all {K : PySem.W.Frag} {H : Hp} : ∀ {ys : List Rs} {vs : List V}, Paired (RsR K H H) ys vs → (∀ y ∈ ys, ∃ d, y = .fz d) → ∀ (i : Nat) b d, (ys.map toSl)[i]? = some (Sl.frz b d) → ∃ v, (vs.map some)[i]? = some (some v) ∧ Dq K H v d
  | _, _, .nil, _, i, b, d, e => by simp at e
  | y :: _, _, .cons h t, f, 0, b, d, e => by
    obtain ⟨d', rfl⟩ := f y (by simp)
    simp [toSl] at e
    obtain ⟨_, rfl⟩ := e
    exact ⟨_, rfl, h⟩
  | _, _, .cons h t, f, i + 1, b, d, e => by
    obtain ⟨v, h1, h2⟩ := con_all t (fun y hy => f y (by simp [hy])) i b d (by simpa using e)
    exact ⟨v, by simpa using h1, h2⟩
theorem con_peek {K : PySem.W.Frag} {H : Hp} {ys : List Rs} {vs : List V} (p : Paired (RsR K H H) ys vs) (f : ∀ y ∈ ys, ∃ d, y = .fz d) : Con K H H (vs.map some) (ys.map toSl) (fun _ => False) := by
  have no : ∀ (i : Nat) x, (ys.map toSl)[i]? = some x → ∃ d, x = Sl.frz false d := fun i x e => by
    rw [List.getElem?_map] at e
    obtain ⟨y, h1, h2⟩ := Option.map_eq_some_iff.mp e
    obtain ⟨d, rfl⟩ := f y (List.mem_of_getElem? h1)
    exact ⟨d, h2.symm⟩
  refine ⟨⟨Same.refl _, fun _ h => h.elim, fun _ h => h.elim, by rw [List.length_map, List.length_map, p.length], con_all p f, fun i b c e => ?_, fun i j b c b' c' l l' F F' ne e => ?_⟩, fun i j k e => ?_⟩
  · obtain ⟨d, h⟩ := no i _ e
    cases h
  · obtain ⟨d, h⟩ := no i _ e
    cases h
  · obtain ⟨d, h⟩ := no i _ e
    cases h
theorem de_peek {k : Nat} {f : Addr} {fd : FuncData} {ps : List Str} {sem : Sem} {x : Str} {p pos : Pos} {e : Expr} {es : List Expr} {ms : List (M AV)} (tk : L2N.Takes X W)
    (F : FnOk X.prog X.w X.K X.mg X.base (L2N.CX X.prog X.w) k f fd ps (spD X.K X.mg sem ps.length)) (hr : Room k X.A) (hg : Gl X x) (hm : X.mg x = some (.ref f)) (hk : PySem.W.keepIn X.K (.ref f) = true) (hb : Binds X.K fd ps [])
    (hn : ms.length = ps.length) (ha : DA X W (e :: es) (oL ms)) (hdb : (x == ("__debug__" : Str)) = false := by decide) (he : starEach (e :: es) X.env = (false, eval e X.env) :: starEach es X.env := by rfl) (hpl : (backTo pos (starEach es X.env)).any (·.1) = false := by rfl) :
    DE X W (.Call (.Name x p) (e :: es) [] pos) (mPeek sem ms) := pe_weak (pe_callS F hr hg hm hk hb (fun σ => L2N.passAt tk σ) ha hdb he hpl) fun σ H Q ⟨B, r, O, h⟩ => by
  have olen : ∀ (ms : List (M AV)) (r : Ro) as r', oL ms r = some (.ok as, r') → as.length = ms.length := by
    intro ms
    induction ms with
    | nil => intro r as r' e; cases e; rfl
    | cons m ms ih =>
      intro r as r' e
      unfold oL M.bind at e
      split at e
      · cases e
      · rename_i a r1 q
        simp only [M.bind] at e
        split at e
        · cases e
        · rename_i as2 r2 q2
          cases e
          rw [List.length_cons, ih _ _ _ q2, List.length_cons]
        · cases e
      · cases e
  obtain ⟨c0, o0, r0, e0, p0⟩ := h
  refine ⟨B, r, O, c0, ?_⟩
  unfold mPeek M.bind at e0
  cases q : oL ms r with
  | none => rw [q] at e0; cases e0
  | some z =>
    obtain ⟨o1, rr1⟩ := z
    rw [q] at e0
    refine ⟨o1, rr1, rfl, ?_⟩
    cases o1 with
    | exc x => cases e0; exact p0
    | ok as =>
      intro B1 H1 O1 vs s1 c1 b1 x1
      simp only at e0
      split at e0
      · cases e0
      · rename_i ys qv
        obtain ⟨xs, q2, q3⟩ := Option.bind_eq_some_iff.mp qv
        have x1 : Paired (AvR X.K B1 σ) as vs := x1
        have px := c1.looks2_ q2 x1
        obtain ⟨py, fz⟩ := views_dq c1.sub px q3
        split at e0
        · rename_i d zs q4
          split at e0
          · rename_i hc
            cases e0
            obtain ⟨hc1, hc2⟩ := Bool.and_eq_true_iff.mp hc
            refine ⟨by rw [← x1.length]; exact (olen ms r as _ q).trans hn, H1, fun _ => False, ys, con_peek py fz, .ok (.val d), zs, q4, of_decide_eq_true hc2, ?_⟩
            intro B' H' O' v s2 c2 x2
            have kp : ∀ a o, H1 a = some o → H' a = some o := fun a o h => s2.keep a o h (fun z => z)
            have sub : Same B1 H' := fun a o h => kp a o (c1.sub a o h)
            have ko : ∀ a, O1 a → H' a = H1 a := fun a h => by
              cases q5 : H1 a with
              | none => exact absurd q5 (c1.liv a h)
              | some o => exact kp a o q5
            have c3 := c1.mono (Same.refl _) sub ko c1.off
            exact p0 B1 H' O1 v (s1.trans ⟨Same.refl _, fun a o h _ => kp a o h, s2.live, fun _ _ _ h => h, fun _ h => .inl h⟩) c3 b1 (flat_dq x2 hc1)
          · cases e0
        · cases e0
end
end DL
end

section
namespace DL
open PySem
end DL
end

section
namespace DL
open PySem PySem.Spec PyProof.Rows L2
section
variable {X : Cx} {W : WX}
end
end DL
end

section
namespace DL
open PySem
def putL (kvs : List (Ky × List D)) (k : Ky) (d : D) : List (Ky × List D) :=
  if kvs.any (fun kv => decide (kv.1 = k)) then kvs.map (fun kv => if kv.1 = k then (kv.1, kv.2 ++ [d]) else kv) else kvs ++ [(k, [d])]
def lookL (kvs : List (Ky × List D)) (n : Int) : List D := ((kvs.find? fun kv => decide (kv.1 = .inl n)).map (·.2)).getD []
def dins (n : Int) : List Int → List Int
  | [] => [n]
  | m :: t => if n < m then n :: m :: t else if n = m then m :: t else m :: dins n t
/-- the numbers, each once, rising -/
def dsort (ns : List Int) : List Int := ns.foldr dins []
end DL
end

section
namespace DL
open PySem PySem.Spec PyProof.Rows L2
section
variable {K : PySem.W.Frag} {B H H' : Hp} {σ σ' : L2.St} {r : Ro} {O : Addr → Prop}
end
section
variable {X : Cx} {W : WX}
end
end DL
end

section
namespace DL
open PySem PySem.Spec PyProof.Rows L2
section
variable {X : Cx} {W : WX}
end
end DL
end

section
namespace DL
open PySem PySem.Spec PyProof.Rows L2
section
variable {P : Program} {w : World} {A : Around} {E : Value → Shared → Prop} {s : Shared}
end
end DL
end

section
namespace DL
open PySem PySem.Spec PyProof.Rows L2
theorem dins_mem {n k : Int} : ∀ {l : List Int}, k ∈ dins n l ↔ k = n ∨ k ∈ l
  | [] => by simp [dins]
  | m :: t => by
    unfold dins
    split
    · simp
    · split
      · rename_i h; subst h; simp
      · rw [List.mem_cons, dins_mem, List.mem_cons]
        constructor
        · rintro (h | h | h) <;> simp [h]
        · rintro (h | h | h) <;> simp [h]
theorem dins_pw {n : Int} : ∀ {l : List Int}, l.Pairwise (· < ·) → (dins n l).Pairwise (· < ·)
  | [], _ => by simp [dins]
  | m :: t, h => by
    obtain ⟨h1, h2⟩ := List.pairwise_cons.mp h
    unfold dins
    split
    · rename_i q
      refine List.pairwise_cons.mpr ⟨fun k hk => ?_, h⟩
      rcases List.mem_cons.mp hk with rfl | hk
      · exact q
      · have := h1 k hk
        omega
    · split
      · exact h
      · refine List.pairwise_cons.mpr ⟨fun k hk => ?_, dins_pw h2⟩
        rcases dins_mem.mp hk with rfl | hk
        · omega
        · exact h1 k hk
theorem dsort_mem {k : Int} : ∀ {l : List Int}, k ∈ dsort l ↔ k ∈ l
  | [] => by simp [dsort]
  | n :: t => by
    show k ∈ dins n (dsort t) ↔ _
    rw [dins_mem, dsort_mem, List.mem_cons]
theorem dsort_pw : ∀ l : List Int, (dsort l).Pairwise (· < ·)
  | [] => .nil
  | n :: t => dins_pw (dsort_pw t)
theorem dsort_uniq {ns ys : List Int} (h1 : ys.Pairwise (· < ·)) (h2 : ∀ k, k ∈ ys ↔ k ∈ ns) : ys = dsort ns := by
  have nd : ∀ l : List Int, l.Pairwise (· < ·) → l.Nodup := fun l h => by
    rw [List.nodup_iff_pairwise_ne]
    exact h.imp fun h => by omega
  refine List.Perm.eq_of_pairwise (le := (· < ·)) (fun a b _ _ h1 h2 => by omega) h1 (dsort_pw ns) ((List.perm_ext_iff_of_nodup (nd _ h1) (nd _ (dsort_pw ns))).mpr fun k => ?_)
  rw [h2, dsort_mem]
section
variable {X : Cx} {W : WX}
end
end DL
end

section
namespace DL
open PySem PySem.Spec PyProof.Rows L2
section
variable {K : PySem.W.Frag} {B H B' H' : Hp} {σ : L2.St} {r : Ro} {O O' : Addr → Prop}
end
section
variable {X : Cx} {W : WX}
end
end DL
end

section
namespace DL
open PySem PySem.Spec PyProof.Rows L2
section
variable {X : Cx} {W : WX}
theorem de_globI {x : Str} {n : Int} {pos : Pos} (hg : Gl X x) (hm : ∃ t, X.mg x = some (.int n t)) (hd : (x == ("__debug__" : Str)) = false := by decide) : DE X W (.Name x pos) (mC (.int n)) := by
  obtain ⟨t, hm⟩ := hm
  exact pe_weak (pe_glob (v := .int n) hg hm ⟨t, rfl⟩ hd) fun σ H Q ⟨B, r, O, c, o, r', e, p⟩ => by
    cases e
    exact p B H O (.int n) .refl c .refl (.int n)
end
end DL
end

section
namespace DL
open PySem PySem.Spec PySem.Calls PyProof.Rows L2
section
variable {K : PySem.W.Frag} {B H : Hp} {σ : L2.St} {r : Ro} {O : Addr → Prop}
theorem get_snoc {α : Type} {l : List α} {x y : α} {i : Nat} (h : (l ++ [x])[i]? = some y) : (i < l.length ∧ l[i]? = some y) ∨ (i = l.length ∧ y = x) := by
  by_cases hi : i < l.length
  · rw [List.getElem?_append_left hi] at h
    exact .inl ⟨hi, h⟩
  · rw [List.getElem?_append_right (by omega)] at h
    by_cases h2 : i = l.length
    · subst h2
      simp at h
      exact .inr ⟨rfl, h.symm⟩
    · rw [List.getElem?_eq_none (by simp; omega)] at h
      cases h
theorem Con.snoc (c : Con K B H σ r O) {ct : Ct} {l : Addr} {F : List Addr} (o : OwnR K B H ct l F) (hF : ∀ a ∈ F, B a = none ∧ ¬ O a) (hn : noAl r r.length = true) :
    Con K B H (σ ++ [some (V.ref l)]) (r ++ [.own false ct]) (fun a => O a ∨ a ∈ F) := by
  have sg : ∀ {i : Nat} {x : Option V}, i < r.length → σ[i]? = some x → (σ ++ [some (V.ref l)])[i]? = some x := fun h e => by
    rw [List.getElem?_append_left (by rw [← c.len]; exact h)]
    exact e
  have sl : (σ ++ [some (V.ref l)])[r.length]? = some (some (V.ref l)) := by
    rw [c.len, List.getElem?_append_right (Nat.le_refl _)]
    simp
  have inv : ∀ {i : Nat} {x : Option V}, i < r.length → (σ ++ [some (V.ref l)])[i]? = some x → σ[i]? = some x := fun h e => by
    rwa [List.getElem?_append_left (by rw [← c.len]; exact h)] at e
  refine ⟨⟨c.sub, fun a h => h.elim (c.off a) fun h => (hF a h).1, fun a h => h.elim (c.liv a) fun h => ownR_some o a h, by simp [c.len], fun i b d e => ?_, fun i b ct' e => ?_, fun i j b c1 b' c2 l1 l2 F1 F2 ne e1 e2 s1 s2 o1 o2 => ?_⟩, fun i j k e b rows l1 as e1 s1 h1 => ?_⟩
  · rcases get_snoc e with ⟨hi, e⟩ | ⟨_, e⟩
    · obtain ⟨v, h1, h2⟩ := c.frz i b d e
      exact ⟨v, sg hi h1, h2⟩
    · cases e
  · rcases get_snoc e with ⟨hi, e⟩ | ⟨rfl, e'⟩
    · obtain ⟨l1, F1, h1, h2, h3⟩ := c.own i b ct' e
      exact ⟨l1, F1, sg hi h1, h2, fun a ha => .inl (h3 a ha)⟩
    · cases e'
      exact ⟨l, F, sl, o, fun a ha => .inr ha⟩
  · rcases get_snoc e1 with ⟨hi, e1⟩ | ⟨rfl, e1'⟩
    · rcases get_snoc e2 with ⟨hj, e2⟩ | ⟨rfl, e2'⟩
      · exact c.sep i j b c1 b' c2 l1 l2 F1 F2 ne e1 e2 (inv hi s1) (inv hj s2) o1 o2
      · cases e2'
        rw [sl] at s2; cases s2
        rw [ownR_uniq o o2 fun _ _ => rfl]
        obtain ⟨l3, F3, g1, g2, g3⟩ := c.own i b c1 e1
        rw [inv hi s1] at g1; cases g1
        rw [ownR_uniq g2 o1 fun _ _ => rfl]
        exact fun a ha hb => (hF a hb).2 (g3 a ha)
    · cases e1'
      rw [sl] at s1; cases s1
      rw [ownR_uniq o o1 fun _ _ => rfl]
      rcases get_snoc e2 with ⟨hj, e2⟩ | ⟨rfl, _⟩
      · obtain ⟨l3, F3, g1, g2, g3⟩ := c.own j b' c2 e2
        rw [inv hj s2] at g1; cases g1
        rw [ownR_uniq g2 o2 fun _ _ => rfl]
        exact fun a ha hb => (hF a ha).2 (g3 a hb)
      · exact absurd rfl ne
  · rcases get_snoc e with ⟨hi, e⟩ | ⟨_, e⟩
    · rcases get_snoc e1 with ⟨hj, e1⟩ | ⟨rfl, _⟩
      · obtain ⟨a, h2, h3⟩ := c.al i j k e b rows l1 as e1 (inv hj s1) h1
        exact ⟨a, h2, sg hi h3⟩
      · exact absurd e (noAl_of hn)
    · cases e
end
section
variable {X : Cx} {W : WX}
end
end DL
end

section
namespace DL
open PySem
def forA (i j : Nat) (mb : S) : Nat → Nat → S
  | 0, k => fun r => match r[i]? with
    | some (.own true (.ll rows)) => if rows.length = k then some (.nx, r) else none
    | _ => none
  | n + 1, k => fun r => match r[i]?, r[j]? with
    | some (.own true (.ll rows)), some x => if k < rows.length ∧ i ≠ j ∧ putSl.pinnedB x = false then match mb (r.set j (.al i k)) with
        | some (.nx, r') => forA i j mb n (k + 1) r'
        | some (.cnt, r') => forA i j mb n (k + 1) r'
        | _ => none
      else none
    | _, _ => none
def outA (i j : Nat) (b : Bool) (r' : Ro) : Option (SO × Ro) := match r'[i]?, r'[j]? with
  | some (.own _ (.ll rows')), some x => if noAl (r'.set j .non) i = true ∧ i ≠ j ∧ putSl.pinnedB x = false then some (.nx, (r'.set j .non).set i (.own b (.ll rows'))) else none
  | _, _ => none
def sForA (i j : Nat) (mb : S) : S := fun r => match r[i]? with
  | some (.own b (.ll rows)) => if noAl r i = true then match forA i j mb rows.length 0 (r.set i (.own true (.ll rows))) with
      | some (.nx, r') => outA i j b r'
      | _ => none
    else none
  | _ => none
end DL
end

section
namespace DL
open PySem PySem.Spec PySem.Calls PyProof.Rows L2
section
variable {K : PySem.W.Frag} {B H : Hp} {σ : L2.St} {r : Ro} {O : Addr → Prop}
theorem Con.flag (c : Con K B H σ r O) {i : Nat} {b b' : Bool} {ct : Ct} (e : r[i]? = some (Sl.own b ct)) (hn : noAl r i = true) : Con K B H σ (r.set i (.own b' ct)) O := by
  obtain ⟨l, F, h1, h2, h3⟩ := c.own i b ct e
  exact c.replace (i := i) (x := .own b' ct) rfl (fun _ _ => rfl) ⟨l, F, h1, h2, h3, fun j b2 c2 l2 F2 n e2 s2 o2 => c.sep i j b ct b2 c2 l l2 F F2 (Ne.symm n) e e2 h1 s2 h2 o2⟩ fun _ _ _ => hn
end
section
variable {X : Cx} {W : WX}
theorem ds_forA {tg iter : Expr} {body : List Stmt} {pos : Pos} {i j : Nat} {mb : S} (hp : PassesOwn (model X.prog X.w) X.A X.env X.xe) (hc : X.calm = true) (hi : PE X iter (tVar i)) (hg : PG X tg (gName j)) (hb : DSs X W body mb)
    (hs : ∀ x, foldedSetIterable iter X.env x = pure x := by intro _; rfl) : DS X W (.For tg iter body [] pos) (sForA i j mb) := ps_weak (ps_for hp hc (pi_list hi) hg hb hs) fun D σ H ⟨B, r, O, c, o, r', e, p⟩ => by
  unfold sForA at e
  split at e
  · rename_i b rows q
    split at e
    · rename_i hn
      obtain ⟨l, F, h1, h2, h3⟩ := c.own i b _ q
      obtain ⟨as, rfl, h4, nd, ra⟩ := id h2
      have c0 : Con X.K B H σ (r.set i (.own true (.ll rows))) O := c.flag (b' := true) q hn
      have hil : i < r.length := (List.getElem?_eq_some_iff.mp q).1
      cases q2 : forA i j mb rows.length 0 (r.set i (.own true (.ll rows))) with
      | none => rw [q2] at e; cases e
      | some z =>
        obtain ⟨oz, rz⟩ := z
        rw [q2] at e
        cases oz with
        | nx =>
          simp only at e
          refine ⟨.ref l, h1, l, rfl, ⟨_, .of h4⟩, fun k m σ' H' => m = rows.length - k ∧ k ≤ rows.length ∧ ∃ B' r2 O', Step B H O B' H' O' ∧ Con X.K B' H' σ' r2 O' ∧ Bor (r.set i (.own true (.ll rows))) σ r2 σ' ∧ forA i j mb (rows.length - k) k r2 = some (.nx, rz),
            ⟨rows.length, by simp, Nat.zero_le _, B, _, O, .refl, c0, .refl, q2⟩, ?_⟩
          rintro k m σ2 H2 ⟨rfl, hk, B2, r2, O2, s2, c2, b2, e2⟩
          have hsi : σ2[i]? = some (some (V.ref l)) := by
            have := (b2 i _ (List.getElem?_set_self hil) rfl).2
            rw [this]; exact h1
          by_cases hlt : k < rows.length
          · obtain ⟨n, hn2⟩ : ∃ n, rows.length - k = n + 1 := ⟨rows.length - k - 1, by omega⟩
            rw [hn2] at e2
            unfold forA at e2
            split at e2
            · rename_i rows2 x q3 q4
              split at e2
              · rename_i hz
                obtain ⟨z1, z2, z3⟩ := hz
                obtain ⟨l2, F2, g1, ⟨as2, rfl, g2, nd2, ra2⟩, g3⟩ := c2.own i true _ q3
                rw [hsi] at g1; cases g1
                have hal := rowsAt_len ra2
                obtain ⟨a, ha⟩ : ∃ a, as2[k]? = some a := ⟨_, List.getElem?_eq_getElem (by omega)⟩
                refine .inr ⟨⟨_, V.ref a, .of g2, by rw [List.getElem?_map, ha]; rfl⟩, fun σ' H' => k + 1 ≤ rows.length ∧ ∃ B' r3 O', Step B H O B' H' O' ∧ Con X.K B' H' σ' r3 O' ∧ Bor (r.set i (.own true (.ll rows))) σ r3 σ' ∧ forA i j mb n (k + 1) r3 = some (.nx, rz), fun σ' H' z => ⟨rows.length - (k + 1), by omega, rfl, z.1, by rw [show rows.length - (k + 1) = n by omega]; exact z.2⟩, ?_⟩
                rintro x' H3 ⟨rfl, hx⟩
                have hx := hx _ (.of g2)
                rw [List.getElem?_map, ha] at hx
                cases hx
                have hjl : j < σ2.length := by rw [← c2.len]; exact (List.getElem?_eq_some_iff.mp q4).1
                have c3 := c2.setAl (i := j) hjl q3 hsi g2 ha (Ne.symm z2)
                have b3 : Bor r2 σ2 (r2.set j (.al i k)) (σ2.set j (some (V.ref a))) := fun t y ht py => by
                  have htj : t ≠ j := fun z => by
                    subst z
                    rw [q4] at ht
                    cases ht
                    have : putSl.pinnedB x = true := by cases x <;> exact py
                    rw [z3] at this
                    cases this
                  exact ⟨⟨y, by rw [List.getElem?_set_ne (Ne.symm htj)]; exact ht, py⟩, List.getElem?_set_ne (Ne.symm htj)⟩
                refine ⟨B2, _, O2, c3, ?_⟩
                cases q5 : mb (r2.set j (.al i k)) with
                | none => rw [q5] at e2; cases e2
                | some z5 =>
                  obtain ⟨o5, r5⟩ := z5
                  rw [q5] at e2
                  refine ⟨o5, r5, rfl, ?_⟩
                  cases o5 with
                  | nx => exact fun B' H' O' σ' s' c' b' => ⟨hlt, B', r5, O', s2.trans s', c', b2.trans (b3.trans b'), e2⟩
                  | cnt => exact fun B' H' O' σ' s' c' b' => ⟨hlt, B', r5, O', s2.trans s', c', b2.trans (b3.trans b'), e2⟩
                  | _ => cases e2
              · cases e2
            · cases e2
          · have ek : k = rows.length := by omega
            subst ek
            rw [Nat.sub_self] at e2
            unfold forA at e2
            split at e2
            · rename_i rows2 q3
              split at e2
              · rename_i hz
                cases e2
                obtain ⟨l2, F2, g1, ⟨as2, rfl, g2, nd2, ra2⟩, g3⟩ := c2.own i true _ q3
                rw [hsi] at g1; cases g1
                refine .inl ⟨⟨_, .of g2, by rw [List.length_map, rowsAt_len ra2, hz]; exact Nat.le_refl _⟩, ?_⟩
                unfold outA at e
                rw [q3] at e
                cases q6 : rz[j]? with
                | none => rw [q6] at e; cases e
                | some y =>
                  rw [q6] at e
                  simp only at e
                  split at e
                  · rename_i hy
                    cases e
                    have hq : (rz.set j Sl.non)[i]? = some (Sl.own true (.ll rows2)) := by rw [List.getElem?_set_ne (Ne.symm hy.2.1)]; exact q3
                    have c4 := (c2.forget j).flag (b' := b) hq hy.1
                    refine p B2 H2 O2 σ2 s2 c4 (fun t w ht pw => ?_)
                    by_cases hti : t = i
                    · subst hti
                      rw [q] at ht
                      cases ht
                      exact ⟨⟨_, List.getElem?_set_self (by rw [List.length_set]; exact (List.getElem?_eq_some_iff.mp q3).1), pw⟩, hsi.trans h1.symm⟩
                    · obtain ⟨⟨w2, w3, w4⟩, w5⟩ := b2 t w (by rw [List.getElem?_set_ne (Ne.symm hti)]; exact ht) pw
                      have htj : t ≠ j := fun z => by
                        subst z
                        rw [q6] at w3
                        cases w3
                        have : putSl.pinnedB y = true := by cases y <;> exact w4
                        rw [hy.2.2] at this
                        cases this
                      exact ⟨⟨w2, by rw [List.getElem?_set_ne (Ne.symm hti), List.getElem?_set_ne (Ne.symm htj)]; exact w3, w4⟩, w5⟩
                  · cases e
              · cases e2
            · cases e2
        | _ => cases e
    · cases e
  · cases e
end
end DL
end

section
namespace DL
open PySem
def mClrL (j : Nat) : M RV := fun r => match r[j]? with
  | some (.own b (.ll _)) => if noAl r j = true then some (.ok (.val .none), r.set j (.own b (.ll []))) else none
  | _ => none
end DL
end

section
namespace DL
open PySem PySem.Spec PySem.Calls PyProof.Rows L2
section
variable {X : Cx} {W : WX}
theorem de_clrL {x : Expr} {apos cpos : Pos} {j : Nat} (ho : PE X x (tVar j)) (hbase : attributeBase x "clear" X.env (eval x X.env) = eval x X.env := by rfl) (hline : (apos.endLine == cpos.line) = true := by rfl) :
    DE X W (.Call (.Attribute x "clear" apos) [] [] cpos) (mClrL j) := pe_weak (pe_bm0 PySem.F.plainAttrs_list PySem.F.slot_list_clear PySem.F.type_list_clear mt_clear ho hbase hline) fun σ H Q ⟨B, r, O, c, o, r', e, p⟩ => by
  unfold mClrL at e
  split at e
  · rename_i b rows q
    split at e
    · rename_i hn
      cases e
      obtain ⟨l, F, h1, o1, h3⟩ := c.own j b _ q
      have o1c := o1
      obtain ⟨as, rfl, g2, nd, ra⟩ := o1
      have live : ∀ a, H a ≠ none → upd H l (.lst []) a ≠ none := fun a ha => by
        by_cases e : a = l
        · subst e; rw [upd_same]; simp
        · rw [upd_ne e]; exact ha
      refine ⟨.ref l, h1, .inl ⟨rfl, _, .of g2⟩, ⟨l, _, rfl, rfl, g2, ?_⟩⟩
      obtain ⟨c1, s1⟩ := c.change (ct' := .ll []) (F' := [l]) (H' := upd H l (.lst [])) q h1 o1c (fun y hy => upd_ne fun e => hy (by rw [e]; exact List.mem_cons_self ..))
        ⟨[], rfl, upd_same, by simp, .nil⟩ (fun a ha => by simp at ha; simp [ha]) live (fun rows' e => .inl hn)
      exact p B _ O _ s1 c1 (bor_same q fun z => z) .non
    · cases e
  · cases e
end
end DL
end

section
namespace DL
open PySem
mutual
/-- no list in it -/
def lfree : D → Bool
  | .tuple ds => lfreeL ds
  | .list _ => false
  | .dict _ => false
  | _ => true
def lfreeL : List D → Bool
  | [] => true
  | d :: ds => lfree d && lfreeL ds
end
def lfreeRV : RV → Bool
  | .val d => lfree d
  | .new (.lst ds) => lfreeL ds
  | _ => false
def hideSl : Sl → Sl
  | .frz b d => .frz b d
  | _ => .non
def hideR (r : Ro) (i : Nat) (ds : List D) : Ro := (r.map hideSl).set i (.frz false (.list ds))
end DL
end

section
namespace DL
open PySem PySem.Spec PySem.Calls PyProof.Rows L2
section
variable {K : PySem.W.Frag} {B B' H H' : Hp} {σ : L2.St} {r : Ro} {O : Addr → Prop}
mutual
theorem lfree_dq (kt : ∀ a xs, TupAt B a xs → TupAt B' a xs) : ∀ {v : V} {d : D}, Dq K B v d → lfree d = true → Dq K B' v d
  | _, _, .non, _ => .non
  | _, _, .bl b, _ => .bl b
  | _, _, .int i, _ => .int i
  | _, _, .str x, _ => .str x
  | _, _, .lst _ _, h => nomatch h
  | _, _, .tup h1 h2, h => .tup (kt _ _ h1) (lfree_dqs kt h2 h)
  | _, _, .scr _ e, h => by subst e; exact nomatch h
  | _, _, .fn _ e, h => by subst e; exact nomatch h
  | _, _, .dic _, h => by exact nomatch h
  | _, _, .dii _ _ _ _ e, h => by subst e; exact nomatch h
theorem lfree_dqs (kt : ∀ a xs, TupAt B a xs → TupAt B' a xs) : ∀ {vs : List V} {ds : List D}, DqAll K B vs ds → lfreeL ds = true → DqAll K B' vs ds
  | _, _, .nil, _ => .nil
  | _, _, .cons h1 h2, h => by
    obtain ⟨a, b⟩ := Bool.and_eq_true_iff.mp h
    exact .cons (lfree_dq kt h1 a) (lfree_dqs kt h2 b)
end
theorem hide_get {j : Nat} {x : Sl} {i : Nat} {ds : List D} (h : (hideR r i ds)[j]? = some x) : (j = i ∧ x = .frz false (.list ds)) ∨ (j ≠ i ∧ x = .non) ∨ (j ≠ i ∧ ∃ b d, x = .frz b d ∧ r[j]? = some (.frz b d)) := by
  unfold hideR at h
  rcases get_set h with ⟨e, z⟩ | ⟨n, h⟩
  · exact .inl ⟨e, z⟩
  · rw [List.getElem?_map] at h
    obtain ⟨y, h1, h2⟩ := Option.map_eq_some_iff.mp h
    cases y with
    | frz b d => exact .inr (.inr ⟨n, b, d, h2.symm, h1⟩)
    | _ => exact .inr (.inl ⟨n, h2.symm⟩)
end
section
variable {X : Cx} {W : WX}
end
end DL
end

section
namespace DL
open PySem
end DL
end

section
namespace DL
open PySem PySem.Spec PySem.Calls PyProof.Rows L2
end DL
end

section
namespace DL
open PySem
end DL
end

section
namespace DL
open PySem PySem.Spec PySem.Calls PyProof.Rows L2
end DL
end

section
namespace DL
open PySem
end DL
end

section
namespace DL
open PySem PySem.Spec PySem.Calls PyProof.Rows L2
section
variable {K : PySem.W.Frag} {B H : Hp} {σ : L2.St} {r : Ro} {O : Addr → Prop}
theorem Con.put (c : Con K B H σ r O) {j : Nat} {b : Bool} {ct : Ct} {l : Addr} {F : List Addr} (hs : σ[j]? = some (some (V.ref l))) (o : OwnR K B H ct l F) (hF : ∀ a ∈ F, B a = none)
    (sep : ∀ (i : Nat) b' c' l' F', i ≠ j → r[i]? = some (Sl.own b' c') → σ[i]? = some (some (V.ref l')) → OwnR K B H c' l' F' → ∀ a ∈ F, a ∉ F') (hn : noAl r j = true) :
    Con K B H σ (r.set j (.own b ct)) (fun a => O a ∨ a ∈ F) :=
  (c.grow fun a ha => ⟨hF a ha, ownR_some o a ha⟩).replace (i := j) (x := .own b ct) rfl (fun _ _ => rfl) ⟨l, F, hs, o, fun a ha => .inr ha, sep⟩ fun _ _ _ => hn
end
section
variable {X : Cx} {W : WX}
end
end DL
end

section
namespace DL
open PySem
end DL
end

section
namespace DL
open PySem PySem.Spec PySem.Calls PyProof.Rows L2
section
variable {X : Cx} {W : WX}
end
end DL
end

section
namespace DL
open PySem
def sRaise (cls : String) : S := fun r => some (.exc ⟨cls, none⟩, r)
end DL
end

section
namespace DL
open PySem PySem.Spec PySem.Calls PyProof.Rows L2
section
variable {X : Cx} {W : WX}
/-- what the written part says of an own class of exceptions -/
structure ExK (K : PySem.W.Frag) (mg : Str → Option Value) (x : String) (C : Addr) : Prop where
  gC : mg (Str.ofString x) = some (.ref C)
  q : PySem.W.excIn K C [.type "ValueError", .type "Exception", .type "BaseException", .type "object"] "ValueError.__new__" = true
  kC : PySem.W.keepIn K (.ref C) = true
  b : PySem.W.subIn K (.ref C) (.type "BaseException") = some true
  t : PySem.W.typeIn K (.ref C) = some (.type "type")
theorem ds_raise {cls : String} {C : Addr} {m : Str} {j : Nat} {p p2 pos pos' : Pos} (hc : X.calm = true) (tk : L2N.Takes X W) (T : ExK X.K X.mg cls C) (hg : Gl X (Str.ofString cls)) (hdb : (Str.ofString cls == ("__debug__" : Str)) = false := by decide) :
    DS X W (.Raise (some (.Call (.Name (Str.ofString cls) p) [.Constant (.str m) j p2] [] pos)) none pos') (sRaise cls) :=
  ps_weak (L2N.ps_raise hc tk (L2N.pmk_own PySem.F.excBase_ValueError T.q T.gC T.kC (raises_own T.b T.t) hg hdb)) fun D σ H ⟨B, r, O, c, o, r', e, p⟩ => by
    cases e
    exact p B H O σ (.ref C) none .refl c .refl ⟨C, T.gC, rfl, rfl⟩
def DEx (X : Cx) (W : WX) (i : Nat) (a : Addr) (e : Expr) (m : M RV) : Prop := PE X e (fun σ H Q => σ[i]? = some (some (V.ref a)) ∧ tG (Cx.g X) W m (rV (Cx.g X)) σ H Q)
def DAx (X : Cx) (W : WX) (i : Nat) (a : Addr) (es : List Expr) (m : M (List AV)) : Prop := PA X es (fun σ H Q => σ[i]? = some (some (V.ref a)) ∧ tG (Cx.g X) W m (rL (Cx.g X)) σ H Q)
theorem dex_of {i : Nat} {a : Addr} {e : Expr} {m : M RV} (h : DE X W e m) : DEx X W i a e m := pe_weak h fun σ H Q h => h.2
theorem dax_nil {i : Nat} {a : Addr} : DAx X W i a [] (oL []) := pa_weak da_nil fun σ H Q h => h.2
theorem dax_cons {i : Nat} {a : Addr} {e : Expr} {es : List Expr} {m : M RV} {ms : List (M AV)} (h : DEx X W i a e m) (t : DAx X W i a es (oL ms)) (hs : starEach (e :: es) X.env = (false, eval e X.env) :: starEach es X.env := by rfl) : DAx X W i a (e :: es) (oL (oE m :: ms)) := pa_weak (pa_cons h t hs) fun σ H Q ⟨hi, B, r, O, h⟩ => by
  have h1 : At (Cx.g X) W (oE m) (rA (Cx.g X)) B r O σ H fun x H1 => ∃ a1 B1 r1 O1, Step B H O B1 H1 O1 ∧ AvR X.K B1 σ a1 x ∧ At (Cx.g X) W ((oL ms).bind fun as => M.ret (a1 :: as)) (rL (Cx.g X)) B1 r1 O1 σ H1 Q := h.bind later_rL (R := rA (Cx.g X))
  refine ⟨hi, ?_⟩
  -- the operand
  obtain ⟨c, o, r', e1, p⟩ := h1
  refine ⟨B, r, O, c, ?_⟩
  unfold oE M.bind at e1
  cases q : m r with
  | none => rw [q] at e1; cases e1
  | some z =>
    obtain ⟨o1, r1⟩ := z
    rw [q] at e1
    refine ⟨o1, r1, rfl, ?_⟩
    cases o1 with
    | exc x => cases e1; exact p
    | ok rv =>
      simp only [M.of] at e1
      cases qd : rv.data with
      | none => rw [qd] at e1; cases e1
      | some d =>
        rw [qd] at e1
        cases e1
        intro B1 H1 O1 v s1 c1 b1 x1
        obtain ⟨B2, s2, c2, dp, _⟩ := c1.frozen s1 x1 qd
        obtain ⟨a1, B3, r3, O3, s3, x3, h2⟩ := p B2 H1 O1 v s2 c2 b1 dp
        refine ⟨hi, tG.of ((h2.bind later_rL (R := rL (Cx.g X))).mono ?_)⟩
        rintro xs H2 ⟨as, B4, r4, O4, s4, x4, h3⟩
        exact h3.ret (Paired.cons (x3.same s4.sB) x4)
theorem dex_lst {i : Nat} {a : Addr} {es : List Expr} {pos : Pos} {ms : List (M AV)} (h : DAx X W i a es (oL ms)) : DEx X W i a (.List es pos) (mOp gLst ms) := pe_weak (pe_lst h) fun σ H Q ⟨hi, B, r, O, h⟩ => by
  refine ⟨hi, tG.of (h.ops.mono ?_)⟩
  rintro vs H1 ⟨B1, xs, z, sb, p, hg, q⟩
  unfold gLst at hg
  obtain ⟨ds, e1, e2⟩ := Option.bind_eq_some_iff.mp hg
  split at e2
  · rename_i hl
    cases e2
    have d := dataAll_of e1 p
    exact ⟨by rw [d.length, ← line_eq]; exact hl, alc_lst q d⟩
  · cases e2
end
end DL
end

section
namespace DL
open PySem PySem.Spec PySem.Calls PyProof.Rows L2
section
variable {X : Cx} {W : WX}
theorem kit_ref {K : PySem.W.Frag} {D T : Addr} {b : Bool} (hs : PySem.W.subIn K (.ref D) (.ref D) = some true) (hd : PySem.W.hasDictIn K T = true) (ht : PySem.W.typeIn K (.ref T) = some (.type "type")) (h : PySem.W.subIn K (.ref D) (.ref T) = some b) : PySem.W.kitOne K (.ref D) (.ref T) = some b := by
  unfold PySem.W.kitOne
  by_cases e : D = T
  · subst e
    rw [hs] at h
    cases h
    rw [if_pos (by simp)]
  · rw [if_neg (by simpa using e)]
    obtain ⟨cd, hc, _⟩ := PySem.W.any_some hd
    unfold PySem.W.kitCls
    simp only
    rw [hc, ht, if_pos (by rfl)]
    exact h
theorem kit_bty {K : PySem.W.Frag} {D : Addr} {T : String} {b : Bool} (hm : PySem.W.kitMeta T = true) (h : PySem.W.subIn K (.ref D) (.type T) = some b) : PySem.W.kitOne K (.ref D) (.type T) = some b := by
  unfold PySem.W.kitOne
  rw [if_neg (by simp)]
  unfold PySem.W.kitCls
  simp only
  rw [if_pos hm]
  exact h
end
end DL
end

section
namespace DL
open PySem
end DL
end

section
namespace DL
open PySem PySem.Spec PySem.Calls PyProof.Rows L2
section
variable {X : Cx} {W : WX}
end
end DL
end

section
namespace DL
open PySem
end DL
end

section
namespace DL
open PySem PySem.Spec PySem.Calls PyProof.Rows L2
section
variable {X : Cx} {W : WX}
end
end DL
end

section
namespace DL
open PySem
end DL
end

section
namespace DL
open PySem PySem.Spec PySem.Calls PyProof.Rows L2 RT
section
variable {X : Cx} {W : WX}
end
end DL
end

section
namespace DL
open PySem
end DL
end

section
namespace DL
open PySem PySem.Spec PySem.Calls PyProof.Rows L2
section
variable {X : Cx}
end
end DL
end

section
namespace DL
open PySem
end DL
end

section
namespace DL
open PySem PySem.Spec PySem.Calls PyProof.Rows L2 RT
section
variable {X : Cx} {W : WX}
end
end DL
end

section
namespace DL
open PySem
/-- lists and tuples alone: they lie on the heap -/
def isRow : D → Bool
  | .list _ => true
  | .tuple _ => true
  | _ => false
def shOk (d : D) : Bool := isRow d && okE d && PyData.showable d && PyData.leavesShort 13 d && decide (PyData.weight d ≤ 2 ^ 20)
def gNeS : List Rs → Option RV
  | [a, b] => match a.data, b.data with
    | some (.str x), some (.str y) => some (.val (.bool (x.cps.toList != y.cps.toList)))
    | _, _ => none
  | _ => none
end DL
namespace DL
open PySem
end DL
end

section
namespace DL
open PySem PySem.Spec PyProof.Rows L2
section
variable {X : Cx} {W : WX}
theorem dq_str {K : PySem.W.Frag} {H : Hp} {v : V} {x : Str} (h : Dq K H v (.str x)) : v = .str x := by
  generalize e : (PyData.str x : D) = d at h
  cases h with
  | str y => cases e; rfl
  | scr s h => rw [h] at e; cases e
  | fn s h => rw [h] at e; cases e
  | dii _ _ _ _ h => rw [h] at e; cases e
  | _ => cases e
theorem od_neS : OpD X (compareOp .NotEq) gNeS := by
  intro pins s σ H x y v u Q I rx ry ⟨B, a, b, z, sb, r1, r2, hg, q⟩
  unfold gNeS at hg
  simp only at hg
  split at hg
  · rename_i x y e1 e2
    cases hg
    cases dq_str (rs_dp sb r1 e1)
    cases dq_str (rs_dp sb r2 e2)
    obtain ⟨t, rfl⟩ := rx
    obtain ⟨t', rfl⟩ := ry
    exact P.ne_str ⟨.bl _, H, I, rfl, alc_val q (.bl _)⟩
  · cases hg
end
end DL
end

section
namespace DL
open PySem PySem.Spec PySem.Calls PyProof.Rows L2
section
variable {X : Cx} {W : WX}
end
end DL
end

section
namespace DL
open PySem
end DL
end

section
namespace DL
open PySem PySem.Spec PyProof.Rows L2
section
variable {K : PySem.W.Frag} {B H : Hp}
end
section
variable {X : Cx} {W : WX} {pins : List (Addr × Obj)} {σ : L2.St} {H : Hp} {s : Shared}
end
end DL
end

section
namespace DL
open PySem
end DL
end

section
namespace DL
open PySem PySem.Spec PyProof.Rows L2
section
variable {X : Cx} {W : WX}
end
end DL
end

section
namespace DL
open PySem
def fDisp (a : AV) (d : D) : M RV := fun r => match keyAt r a with
  | some k => some (.ok (.new (.dK [(k, d)])), r)
  | none => none
def mDisp1 (mk : M AV) (mv : M RV) : M RV := mk.bind fun a => (mFz mv).bind fun d => fDisp a d
end DL
end

section
namespace DL
open PySem PySem.Spec PyProof.Rows L2
section
variable {X : Cx} {W : WX}
theorem de_disp1 {k v : Expr} {pos : Pos} {mk : M AV} {mv : M RV} (hk : DO X W k mk) (hv : DE X W v mv) : DE X W (.Dict [some k] [v] pos) (mDisp1 mk mv) :=
  pe_weak (pe_disp (pps_cons hk hv pps_nil) rfl rfl (by simp) (by simp)) fun σ H Q ⟨B, r, O, c, o, r', e, pc⟩ => by
    intro p hp
    obtain ⟨bp, np, c1, s1⟩ := c.lay (o := .dK []) hp
    have hp1 : upd H p (.dK []) p = some (.dK []) := upd_same
    show tG _ _ _ _ _ _ _
    unfold mDisp1 M.bind at e
    cases qk : mk r with
    | none => rw [qk] at e; cases e
    | some z =>
      obtain ⟨ok, r1⟩ := z
      rw [qk] at e
      refine ⟨B, r, O, c1, ok, r1, qk, ?_⟩
      cases ok with
      | exc x =>
        cases e
        exact fun B' H' O' cl dx s c b y => pc B' H' O' cl dx (s1.trans s) c b y
      | ok a =>
        intro B2 H2 O2 y s2 c2 b2 x2
        simp only at e
        show tG _ _ _ _ _ _ _
        cases q2 : mFz mv r1 with
        | none => rw [q2] at e; cases e
        | some z =>
          obtain ⟨o2, r2⟩ := z
          rw [q2] at e
          refine tG.of (At.froz ⟨c2, o2, r2, q2, ?_⟩)
          cases o2 with
          | exc x =>
            cases e
            exact fun B' H' O' cl dx s c b y => pc B' H' O' cl dx ((s1.trans s2).trans s) c (b2.trans b) y
          | ok d =>
            intro B3 H3 O3 w s3 c3 b3 dp
            simp only at e
            unfold fDisp at e
            split at e
            · rename_i kk qkk
              cases e
              have hy := keyAt_of c3 qkk (x2.same s3.sB)
              have k2 := s2.keep p _ hp1 np
              have n2 : ¬ O2 p := fun q => (s2.nO p q).elim np fun z => by rw [hp1] at z; cases z
              have bb2 := s2.nB p (by rw [hp1]; simp) np bp
              have k3 := s3.keep p _ k2 n2
              have n3 : ¬ O3 p := fun q => (s3.nO p q).elim n2 fun z => by rw [k2] at z; cases z
              have bb3 := s3.nB p (by rw [k2]; simp) n2 bb2
              refine ⟨k3, [(kk, w)], by rw [hy]; rfl, by simp, ?_⟩
              show Q (V.ref p) (upd H3 p (.dK [(kk, w)]))
              have sub : Same B3 (upd H3 p (.dK [(kk, w)])) := fun b x q => by
                by_cases e : b = p
                · subst e; rw [bb3] at q; cases q
                · rw [upd_ne e]; exact c3.sub b x q
              have c4 := c3.mono (H' := upd H3 p (.dK [(kk, w)])) (Same.refl _) sub (fun b q => upd_ne (fun e => n3 (e ▸ q))) c3.off
              have S := (s1.trans s2).trans s3
              have st : Step B H O B3 (upd H3 p (.dK [(kk, w)])) O3 := by
                refine ⟨S.sB, fun b x hb nb => ?_, fun b hb => ?_, S.nB, S.nO⟩
                · rw [upd_ne (fun e => by rw [e, hp] at hb; cases hb)]; exact S.keep b x hb nb
                · rw [upd_ne (fun e => by rw [e, hp] at hb; exact hb rfl)]; exact S.live b hb
              exact pc B3 _ O3 (.ref p) st c4 (b2.trans b3) ⟨p, [p], rfl, ⟨rfl, _, upd_same, .cons ⟨rfl, dp⟩ .nil⟩, fun b hb => by rw [List.mem_singleton.mp hb]; exact ⟨hp, bb3, n3⟩⟩
            · cases e
end
end DL
end

section
namespace DL
open PySem
end DL
end

section
namespace DL
open PySem PySem.Spec PyProof.Rows L2
section
variable {X : Cx}
end
end DL
end

section
namespace DL
open PySem
end DL
namespace DL
open PySem
end DL
end

section
namespace DL
open PySem PySem.Spec PyProof.Rows L2
section
variable {X : Cx}
end
end DL
namespace DL
open PySem PySem.Spec PyProof.Rows L2
section
variable {X : Cx}
end
end DL
end

section
namespace DL
open PySem PySem.Spec PyProof.Rows L2
/-- a meaning that is never told -/
theorem fn_none {P : Program} {w : World} {K : PySem.W.Frag} {mg : Str → Option Value} {base : Heap} {k : Nat} {f : Addr} {fd : FuncData} {ps : List Str} : FnOk P w K mg base (L2N.CX P w) k f fd ps (spD K mg (fun _ => none) ps.length) :=
  ⟨fun vs H Q E h => h.1, fun A outer s H args us vs Q E hr he hb hv ⟨_, B, O, xs, c, o, ys, e, _⟩ => by cases e⟩
theorem cx_no {P : Program} {w : World} {H : Hp} {s s' : Shared} {e : Value} (h : L2N.CX P w [] H s (fun _ _ _ => False) e s') : False := by
  obtain ⟨_, _, _, _, _, _, _, _, _, _, _, _, z⟩ := h
  exact z
end DL
end

section
namespace DL
open PySem PySem.Spec PyProof.Rows L2
/-- what a def keeps at one around -/
def FnAt (P : Program) (w : World) (K : PySem.W.Frag) (mg : Str → Option Value) (base : Heap) (A : Around) (f : Addr) (fd : FuncData) (ps : List Str) (sp : Sp) : Prop :=
  ∀ (st : List Env) (s : Shared) (H : Hp) (as : Args) (us : List Value) (vs : List V) (Q : VK) (E : XK), Env0 P w K mg base A st s H → BindsTo s fd as (ps.zip us) → Vals vs us → sp vs H Q E →
    codeAny (model P w) A (.call (.ref f) as) (CR (L2N.CX P w) st P w H s Q E) s
theorem def_at {P : Program} {w : World} {K : PySem.W.Frag} {mg : Str → Option Value} {base : Heap} {x qual : Str} {st : Stmt} {f : Addr} {fd : FuncData} {N ps : List Str} {k : Nat} {body : S} {A : Around} (hr : Room (k + 1) A) (hG : A.guards = some [])
    (F : Fun K x qual st f fd) (Sc : FnScope N ps (defScope st)) (hn : ps.length ≤ N.length)
    (hb : ∀ (cdv : Value) (B : Around) (st' : List Env) (s : Shared) (H : Hp) (E : XK), Room k (B.deeper (envOfC qual (defScope st) s.heap.objs.size f cdv)) → (B.deeper (envOfC qual (defScope st) s.heap.objs.size f cdv)).guards = some [] →
      L2N.Takes (cxOf (L2N.CX P w) P w K mg base N qual (defScope st) f cdv B st' s H E) (fun c d _ H => E c d H) →
      DSs (cxOf (L2N.CX P w) P w K mg base N qual (defScope st) f cdv B st' s H E) (fun c d _ H => E c d H) (defBody st) body) :
    FnAt P w K mg base A f fd ps (spD K mg (defSem ps.length N.length body) ps.length) := by
  obtain ⟨c1, c2, kw, c3, c4, c5, cv, c6, c7, rfl, hf, hc⟩ := F.ex
  intro stk s H as us vs Q E env bnd rel hsp
  have here : ∀ b o, base.get? b = some o → s.heap.get? b = some o := fun b o e => (env.bs b o e).1
  have KH : K.In s.heap := env.mod.kin.keeps here
  have free : s.heap.NoLimit := env.mod.nolimit.keeps here
  have kinds : ∀ p ∈ ps.zip us, (defScope st).names.lookup p.1 = some .local ∨ ((defScope st).names.lookup p.1 = some .cell ∧ ((cellsFrom (s.heap.objs.size + 1) (defScope st).names []).lookup p.1).isSome = true) := by
    rintro ⟨n, v⟩ hp
    exact (Sc.par n (List.of_mem_zip hp).1).imp id fun q => ⟨q, PySem.W.cellsFrom_some _ _ _ (.inl q)⟩
  refine codeAny_call_function hr.depth (KH _ _ hf) rfl Sc.co Sc.gen rfl (PySem.W.codeRec_of KH hc) (bnd _ _ _ _ (wpAny_newFunctionEnv_cells Sc.kind kinds fun en hen s1 new => ?_))
  cases hen
  refine ⟨free.keeps new.toInCall.keep, codeAny_func ?_⟩
  have D := hb cv A stk s H E (hr.deeper _) hG (L2N.takes_of rfl rfl rfl rfl)
  have I0 := inv_start (CX := L2N.CX P w) (E := E) Sc hr.hd env hsp.1 rel new
  refine wpAny_mono (D.run [] s1 (start N vs) H _ I0 (def_read hn hsp)) (fun o s2 ho => ?_) fun _ _ h => h
  cases o with
  | next =>
    obtain ⟨σ2, H2, I2, q⟩ := ho
    exact ⟨.non, H2, I2.os, I2.bare, I2.base, I2.hok, rfl, q⟩
  | ret u =>
    obtain ⟨v, σ2, H2, I2, rv, q⟩ := ho
    exact ⟨v, H2, I2.os, I2.bare, I2.base, I2.hok, rv, q⟩
  | brk => exact ho.elim fun _ h => h.elim fun _ h => h.2.elim
  | cont => exact ho.elim fun _ h => h.elim fun _ h => h.2.elim
end DL
end

section
namespace DL
open PySem
def mE0 : M RV := M.ret (.val (.dict []))
mutual
/-- tuples and empty dicts alone: no list inside -/
def layT : D → Bool
  | .none => true
  | .bool _ => true
  | .int _ => true
  | .str x => PyData.strOk x
  | .tuple ds => layTs ds
  | .dict l => (l.isEmpty || oneI l) && layTd l
  | _ => false
def layTs : List D → Bool
  | [] => true
  | d :: ds => layT d && layTs ds
def layTd : List (D × D) → Bool
  | [] => true
  | (k, v) :: r => layT k && layT v && layTd r
end
def isRowT : D → Bool
  | .tuple _ => true
  | .dict [] => true
  | .dict (p :: r) => oneI (p :: r)
  | _ => false
/-- rows that can be shown -/
def shR (d : D) : Bool := ((isRow d && okE d) || (isRowT d && layT d && decide (d.depth ≤ 40))) && PyData.showable d && decide ((PyData.shown d).length ≤ lineD)
/-- what lies not on the heap -/
def shS : D → Bool
  | .none => true
  | .bool _ => true
  | .int i => decide (i.natAbs.log2 < 1920)
  | .str x => decide ((PyData.shown (.str x)).length ≤ lineD)
  | _ => false
/-- lists of things that are free of dicts, or of lists -/
def shL : D → Bool
  | .list ds => ds.all (fun d => d.canLay0 || layT d) && PyData.showableAll ds && decide (PyData.depthAll ds ≤ 40) && decide ((PyData.shown (.list ds)).length ≤ lineD)
  | _ => false
mutual
/-- any data, the dicts in it free of lists -/
def shX : D → Bool
  | .none => true
  | .bool _ => true
  | .int _ => true
  | .str _ => true
  | .list ds => shXs ds
  | .tuple ds => shXs ds
  | .dict l => (l.isEmpty || oneI l) && layTd l
def shXs : List D → Bool
  | [] => true
  | d :: ds => shX d && shXs ds
end
def shG (d : D) : Bool := isRow d && shX d && PyData.showable d && decide (d.depth ≤ 40) && decide ((PyData.shown d).length ≤ lineD)
def gReprT : List Rs → Option RV
  | [a] => match a.data with
    | some d => if (shR d || shS d) || (shL d || shG d) then some (.val (.str (PyData.shown d))) else none
    | none => none
  | _ => none
end DL
end

section
namespace DL
open PySem PySem.Spec PyProof.Rows L2
section
variable {X : Cx} {W : WX}
theorem de_e0 {pos : Pos} : DE X W (.Dict [] [] pos) mE0 := pe_weak pe_dnewK fun σ H Q ⟨B, r, O, c, o, r', e, p⟩ => by
  cases e
  intro q hq
  obtain ⟨B', s, c', l, F, e1, ⟨rfl, vs, g1, g2⟩, hF⟩ := c.alc (show Alc X.K B H (upd H q (.dK [])) (.new (.dK [])) (.ref q) from ⟨q, [], hq, rfl, .nil, rfl⟩)
  cases g2
  cases e1
  obtain ⟨n1, n2, n3⟩ := hF q (by simp)
  have c2 := c'.still g1 n2 n3
  exact p _ _ O _ ⟨s.sB.trans (same_new n2), s.keep, s.live, fun a q1 q2 q3 => by
    rw [upd_ne (show a ≠ q from fun e => q1 (by rw [e]; exact n1))]
    exact s.nB a q1 q2 q3, s.nO⟩ c2 .refl (.dic upd_same)
theorem dkD_fst : ∀ {ks : List Ky} {ds : List D}, ds.length = ks.length → (dkD ks ds).map (·.1) = ks.map kD
  | [], ds, h => by cases ds with | nil => rfl | cons _ _ => simp at h
  | k :: ks, [], h => by simp at h
  | k :: ks, d :: ds, h => by
    show kD k :: (dkD ks ds).map (·.1) = _
    rw [dkD_fst (by simpa using h)]
    rfl
theorem dkD_snd : ∀ {ks : List Ky} {ds : List D}, ds.length = ks.length → (dkD ks ds).map (·.2) = ds
  | [], ds, h => by cases ds with | nil => rfl | cons _ _ => simp at h
  | k :: ks, [], h => by simp at h
  | k :: ks, d :: ds, h => by
    show d :: (dkD ks ds).map (·.2) = _
    rw [dkD_snd (by simpa using h)]
theorem layTd_ts : ∀ {ks : List Ky} {ds : List D}, ds.length = ks.length → layTd (dkD ks ds) = true → layTs ds = true
  | [], ds, h, _ => by cases ds with | nil => rfl | cons _ _ => simp at h
  | k :: ks, [], h, _ => by simp at h
  | k :: ks, d :: ds, h, hh => by
    have hh : layTd ((kD k, d) :: dkD ks ds) = true := hh
    simp only [layTd, Bool.and_eq_true] at hh
    simp only [layTs, Bool.and_eq_true]
    exact ⟨hh.1.2, layTd_ts (by simpa using h) hh.2⟩
theorem dk_reads {P : Program} {w : World} {h : Heap} {kvs : List (Ky × V)} {vs : List (Ky × Value)} {es : List DictEntry} (r : KV kvs vs) (p : Pairs (mixKind P w) es vs) :
    ReadsAll h (es.map (·.key)) ((kvs.map (·.1)).map kD) [] ∧ Vals (kvs.map (·.2)) (es.map (·.val)) := by
  induction r generalizing es with
  | nil => cases p; exact ⟨.nil, .nil⟩
  | @cons kv u kvs vs hr _ ih =>
    cases p with
    | cons p1 p2 p3 =>
      obtain ⟨i1, i2⟩ := ih p3
      rename_i e es
      obtain ⟨r1, r2⟩ := hr
      refine ⟨?_, ?_⟩
      · have key : Reads h e.key (kD kv.1) [] := by
          rw [r1]
          have p1 : keyIs u.1 e.key = true := p1
          rcases keyIs_shape p1 with ⟨i2, t2, e2, h⟩ | ⟨x, t2, e2, h⟩
          · rw [e2, h]; exact .int _ _
          · rw [e2, h]; exact .str _ _
        exact ReadsAll.cons key i1
      · rw [List.map_cons, List.map_cons, p2]
        exact .cons r2 i2
mutual
theorem dq_readsT {pins : List (Addr × Obj)} {σ : L2.St} {H : Hp} {s : Shared} (I : Inv X pins σ H s) : ∀ {v : V} {d : D} {u : Value}, Dq X.K H v d → layT d = true → RelV v u → ∃ as, Reads s.heap u d as ∧ sysModules ∉ as
  | _, _, _, .non, _, r => by cases r; exact ⟨_, Reads.none, by simp⟩
  | _, _, _, .bl b, _, r => by cases r; exact ⟨_, Reads.bool b, by simp⟩
  | _, _, _, .int i, _, r => by obtain ⟨t, rfl⟩ := r; exact ⟨_, Reads.int i t, by simp⟩
  | _, _, _, .str x, _, r => by obtain ⟨t, rfl⟩ := r; exact ⟨_, Reads.str x t, by simp⟩
  | _, _, _, .lst _ _, h, _ => by simp [layT] at h
  | _, _, _, .scr _ e, h, _ => by subst e; simp [scrD, layT, oneI] at h
  | _, _, _, .fn _ e, h, _ => by subst e; simp [fnD, layT, oneI] at h
  | _, _, _, @Dq.dii _ _ _ kvs ds l d g a e1 e2 e3, hl, r => by
    subst e3
    cases r
    obtain ⟨_, lo, vs, rel, o, es, ep, h1, h2, h3, h4, h5, _⟩ := (show ObjOk X.prog X.w H s.heap _ (.dK kvs) from I.hok _ _ g)
    have hld : layTd l = true := by
      simp only [layT, Bool.and_eq_true] at hl
      exact hl.2
    have hdl : ds.length = (kvs.map (·.1)).length := by
      have := DqAll.length a
      rw [List.length_map] at this ⊢
      exact this.symm
    obtain ⟨k1, k2⟩ := dk_reads (h := s.heap) rel h5
    obtain ⟨as, q1, q2⟩ := dqa_readsT I a (layTd_ts hdl (by rw [← e1]; exact hld)) k2
    refine ⟨_, Reads.dict (kvs := l) h1 h2.1 h3 (as := []) (bs := as) ?_ ?_, ?_⟩
    · rw [e1, dkD_fst hdl]; exact k1
    · rw [e1, dkD_snd hdl]; exact q1
    · intro hm
      rcases List.mem_append.mp hm with hm | hm
      · rw [← List.mem_singleton.mp hm] at lo
        simp at lo
      · exact q2 hm
  | _, _, _, .tup g a, h, r => by
    cases r
    obtain ⟨its, rv, ⟨o, ho, hc, n, hd⟩, _⟩ := I.tuple (g.sq (K := X.K))
    obtain ⟨as, hr, hs⟩ := dqa_readsT I a (by simpa [layT] using h) rv
    exact ⟨_, Reads.tuple ho hc hd hr, hs⟩
  | _, _, _, .dic g, _, r => by
    cases r
    obtain ⟨_, lo, vs, rel, o, es, ep, h1, h2, h3, h4, h5, _⟩ := (show ObjOk X.prog X.w H s.heap _ (.dK []) from I.hok _ _ g)
    cases rel
    have he : es.toList = [] := by
      cases q : es.toList with
      | nil => rfl
      | cons a b => rw [q] at h5; cases h5
    refine ⟨_, Reads.dict (kvs := []) h1 h2.1 h3 (by rw [he]; exact .nil) (by rw [he]; exact .nil), ?_⟩
    intro hm
    rw [List.append_nil] at hm
    rw [← List.mem_singleton.mp hm] at lo
    simp at lo
theorem dqa_readsT {pins : List (Addr × Obj)} {σ : L2.St} {H : Hp} {s : Shared} (I : Inv X pins σ H s) : ∀ {vs : List V} {ds : List D} {us : List Value}, DqAll X.K H vs ds → layTs ds = true → Vals vs us → ∃ as, ReadsAll s.heap us ds as ∧ sysModules ∉ as
  | _, _, _, .nil, _, r => by cases r; exact ⟨_, ReadsAll.nil, by simp⟩
  | _, _, _, .cons h t, e, r => by
    simp only [layTs, Bool.and_eq_true] at e
    cases r with
    | cons r1 r2 =>
      obtain ⟨as, q1, s1⟩ := dq_readsT I h e.1 r1
      obtain ⟨bs, q2, s2⟩ := dqa_readsT I t e.2 r2
      exact ⟨_, ReadsAll.cons q1 q2, by simp [s1, s2]⟩
end
theorem row_reads {pins : List (Addr × Obj)} {σ : L2.St} {H B : Hp} {s : Shared} (I : Inv X pins σ H s) (sb : Same B H) {a : Rs} {d : D} {v : V} (p1 : RsR X.K B H a v) (e : a.data = some d) (h : shR d = true) :
    ∃ l as, v = V.ref l ∧ Reads s.heap (.ref l) d as ∧ PyData.showable d = true ∧ (d.hasDict = true → sysModules ∉ as) ∧ d.depth ≤ 40 ∧ (PyData.shown d).length ≤ sizeLine := by
  have dq := rs_dp sb p1 e
  simp only [shR, Bool.and_eq_true, Bool.or_eq_true, decide_eq_true_eq] at h
  obtain ⟨⟨h, k3⟩, k4⟩ := h
  rcases h with ⟨k1, k2⟩ | ⟨⟨k1, k2⟩, dep⟩
  · have dep := okE_dep k2
    have lay := okE_lay k2
    obtain ⟨l, rfl⟩ : ∃ l, v = V.ref l := by
      cases d with
      | list xs => obtain ⟨l, _, rfl, _⟩ := rs_list sb p1 e; exact ⟨l, rfl⟩
      | tuple xs => obtain ⟨l, _, rfl, _⟩ := rs_tuple sb p1 e; exact ⟨l, rfl⟩
      | _ => cases k1
    obtain ⟨as, rd⟩ := Dp.reads I d _ _ (dq_dp dq lay) (show RelV (.ref l) (.ref l) from rfl)
    exact ⟨l, as, rfl, rd, k3, PyData.noDict_hsm (PyData.hasDict_of_canLay d lay), dep, k4⟩
  · obtain ⟨l, rfl⟩ : ∃ l, v = V.ref l := by
      cases dq with
      | tup _ _ => exact ⟨_, rfl⟩
      | dic _ => exact ⟨_, rfl⟩
      | dii _ _ _ _ _ => exact ⟨_, rfl⟩
      | scr _ h => subst h; simp [scrD, isRowT, oneI] at k1
      | fn _ h => subst h; simp [fnD, isRowT, oneI] at k1
      | lst _ _ => cases k1
      | _ => cases k1
    obtain ⟨as, rd, hs⟩ := dq_readsT I dq k2 (show RelV (.ref l) (.ref l) from rfl)
    exact ⟨l, as, rfl, rd, k3, fun _ => hs, dep, k4⟩
theorem item_reprs {pins : List (Addr × Obj)} {σ : L2.St} {H : Hp} {s : Shared} (I : Inv X pins σ H s) {v : V} {d : D} {u : Value} (h : Dq X.K H v d) (hd : (d.canLay0 || layT d) = true) (r : RelV v u) : ∃ as, Reads s.heap u d as ∧ (d.hasDict = true → sysModules ∉ as) := by
  rcases Bool.or_eq_true_iff.mp hd with hl | hl
  · obtain ⟨as, rd⟩ := Dp.reads I d _ _ (dq_dp h hl) r
    exact ⟨as, rd, PyData.noDict_hsm (PyData.hasDict_of_canLay d hl)⟩
  · obtain ⟨as, rd, hs⟩ := dq_readsT I h hl r
    exact ⟨as, rd, fun _ => hs⟩
theorem items_repr {pins : List (Addr × Obj)} {σ : L2.St} {H : Hp} {s : Shared} (I : Inv X pins σ H s) : ∀ {vs : List V} {ds : List D} {us : List Value}, DqAll X.K H vs ds → Vals vs us → ds.all (fun d => d.canLay0 || layT d) = true → PyData.showableAll ds = true →
    (∀ t ∈ PyData.shownAll ds, t.length ≤ sizeLine) → ∃ as bs, ReadsAll s.heap us ds as ∧ ReadAtMost s.heap (PyData.depthAll ds) bs ∧ ReprAllK X.prog X.w bs s.heap (PyData.depthAll ds) us (PyData.shownAll ds)
  | _, _, _, .nil, .nil, _, _, _ => ⟨[], [], .nil, (fun _ h => nomatch h), by simp only [PyData.shownAll]; exact .nil⟩
  | _, _, _, .cons (d := d) (ds := ds) h t, .cons r1 r2, hl, hs, hz => by
    simp only [List.all_cons, Bool.and_eq_true] at hl
    have hs' : d.showable = true ∧ PyData.showableAll ds = true := by simpa [PyData.showableAll] using hs
    obtain ⟨a1, q1, n1⟩ := item_reprs I h hl.1 r1
    obtain ⟨b1, hb1, k1⟩ := ReprK.of_reads (prog := X.prog) (w := X.w) q1 hs'.1 n1 (hz _ (by simp only [PyData.shownAll]; exact List.mem_cons_self ..))
    obtain ⟨a2, b2, q2, hb2, k2⟩ := items_repr I t r2 hl.2 hs'.2 (fun t ht => hz t (by simp only [PyData.shownAll]; exact List.mem_cons_of_mem _ ht))
    refine ⟨a1 ++ a2, b1 ++ b2, .cons q1 q2, fun b hm => ?_, ?_⟩
    · simp only [PyData.depthAll]
      rcases List.mem_append.mp hm with hm | hm
      · obtain ⟨d', as', r', hd'⟩ := hb1 b hm
        exact ⟨d', as', r', Nat.le_trans hd' (Nat.le_max_left _ _)⟩
      · obtain ⟨d', as', r', hd'⟩ := hb2 b hm
        exact ⟨d', as', r', Nat.le_trans hd' (Nat.le_max_right _ _)⟩
    · simp only [PyData.depthAll, PyData.shownAll]
      exact .cons ((k1.more fun b hb => List.mem_append_left _ hb).level_le (Nat.le_max_left _ _)) (k2.more_le (fun b hb => List.mem_append_right _ hb) (Nat.le_max_right _ _))
/-- the text of a list of such things -/
theorem list_repr {pins : List (Addr × Obj)} {σ : L2.St} {H : Hp} {s : Shared} {l : Addr} {ms : List V} {ds : List D} {Q : Value → Shared → Prop} {E : Value → Shared → Prop} (I : Inv X pins σ H s) (g1 : H l = some (.lst ms)) (g2 : DqAll X.K H ms ds) (hL : shL (.list ds) = true) (hG : X.A.guards = some []) (hu : X.A.units + 64 < cLine)
    (hQ : ∀ h' u tk, (∀ b o, s.heap.get? b = some o → h'.get? b = some o) → Q (.str (PyData.shown (.list ds)) u) { s with heap := h', toks := tk }) : wpAny (model X.prog X.w) X.A (call (.builtin "repr") [.ref l]) Q E s := by
  simp only [shL, Bool.and_eq_true, decide_eq_true_eq] at hL
  obtain ⟨⟨⟨k1, k2⟩, k3⟩, k4⟩ := hL
  have k4 : (PyData.shown (.list ds)).length ≤ sizeLine := k4
  obtain ⟨_, its, n, rv, h1⟩ := (show ObjOk X.prog X.w H s.heap l (.lst ms) from I.hok l _ g1)
  have hz' : (listText (PyData.shownAll ds)).length ≤ sizeLine := by simpa only [PyData.shown] using k4
  obtain ⟨as, bs, rd, hb, hk⟩ := items_repr I g2 rv k1 k2 fun t ht => Nat.le_trans (listText_mem_le ht) hz'
  have rdl : Reads s.heap (.ref l) (.list ds) (l :: as) := .list h1 rfl rfl (by simpa using rd)
  have hna : l ∉ bs := not_mem_of_deeper rdl (by simp only [PyData.depth]; omega) hb
  have S : ShowsBy X.prog X.w s.heap l (.list ds) "list" "list.__repr__" := by
    refine ⟨F.slot_list_repr.toG, F.slot_list_str, F.slot_list_format, fun s hk0 => ⟨_, hk0 _ _ h1, rfl⟩, fun A E s Q hg hu hk0 hQ => ?_⟩
    simp only [PyData.depth] at hu
    simp only [PyData.shown] at hQ
    cases its with
    | nil =>
      cases rd
      simp only [PyData.shownAll, listText_nil] at hQ
      exact call_list_repr_empty ⟨_, hk0 _ _ h1, rfl⟩ (hk0 _ _ h1) rfl (hQ s.heap _ _ fun _ _ e => e)
    | cons x l2 =>
      exact call_list_reprK h1 rfl rfl hna (by simpa using hk.length_eq) (fun i y e => hk.item i y (by simpa using e)) hg (fun b _ => Clear.nil b) hu hk0 hQ hz'
  exact call_repr_slot (by omega) (S.typeIs s fun _ _ h => h) S.slotRepr (S.call X.A.in1 E s _ hG (by show X.A.units + 1 + (PyData.depthAll ds + 1) < cLine; omega) (fun _ _ h => h) fun h' u tk hk => ⟨_, _, rfl, hQ h' u tk hk⟩)
mutual
/-- what any data looks like as a text -/
theorem dq_reprK {pins : List (Addr × Obj)} {σ : L2.St} {H : Hp} {s : Shared} (I : Inv X pins σ H s) : ∀ {v : V} {d : D} {u : Value}, Dq X.K H v d → shX d = true → RelV v u → PyData.showable d = true → (PyData.shown d).length ≤ sizeLine →
    ∃ as bs, Reads s.heap u d as ∧ ReadAtMost s.heap d.depth bs ∧ ReprK X.prog X.w bs s.heap d.depth u (PyData.shown d)
  | _, _, _, .non, _, r, _, _ => by cases r; exact ⟨_, [], Reads.none, (fun _ h => nomatch h), by simp only [PyData.shown]; exact .of_is ReprIs.none _ _ _⟩
  | _, _, _, .bl b, _, r, _, _ => by cases r; exact ⟨_, [], Reads.bool b, (fun _ h => nomatch h), by simp only [PyData.shown]; exact .of_is (ReprIs.bool b) _ _ _⟩
  | _, _, _, .int i, _, r, hs, _ => by obtain ⟨t, rfl⟩ := r; exact ⟨_, [], Reads.int i t, (fun _ h => nomatch h), by simp only [PyData.shown]; exact .of_is (ReprIs.int t (by simpa [PyData.showable] using hs)) _ _ _⟩
  | _, _, _, .str x, _, r, _, hz => by obtain ⟨t, rfl⟩ := r; exact ⟨_, [], Reads.str x t, (fun _ h => nomatch h), by simp only [PyData.shown]; exact .of_is (ReprIs.str x t (by simpa only [PyData.shown] using hz)) _ _ _⟩
  | _, _, _, .scr _ e, h, _, _, _ => by subst e; simp [scrD, shX, oneI] at h
  | _, _, _, .fn _ e, h, _, _, _ => by subst e; simp [fnD, shX, oneI] at h
  | _, _, _, .dic g, _, r, hs, hz => by
    obtain ⟨as, q1, q2⟩ := dq_readsT I (.dic g) rfl r
    obtain ⟨bs, hb, k⟩ := ReprK.of_reads (prog := X.prog) (w := X.w) q1 hs (fun _ => q2) hz
    exact ⟨as, bs, q1, hb, k⟩
  | _, _, _, @Dq.dii _ _ _ kvs ds l d g a e1 e2 e3, h, r, hs, hz => by
    have hl : layT d = true := by
      subst e3
      simp only [shX] at h
      simp only [layT]
      exact h
    obtain ⟨as, q1, q2⟩ := dq_readsT I (.dii g a e1 e2 e3) hl r
    obtain ⟨bs, hb, k⟩ := ReprK.of_reads (prog := X.prog) (w := X.w) q1 hs (fun _ => q2) hz
    exact ⟨as, bs, q1, hb, k⟩
  | _, _, _, .lst (ds := ds) g a, h, r, hs, hz => by
    cases r
    obtain ⟨_, its, n, rv, h1⟩ := (show ObjOk X.prog X.w H s.heap _ (.lst _) from I.hok _ _ g)
    have hz' : (listText (PyData.shownAll ds)).length ≤ sizeLine := by simpa only [PyData.shown] using hz
    obtain ⟨as, bs, rd, hb, hk⟩ := dqa_reprK I a (by simpa [shX] using h) rv (by simpa [PyData.showable] using hs) fun t ht => Nat.le_trans (listText_mem_le ht) hz'
    have rdl : Reads s.heap (.ref _) (.list ds) (_ :: as) := .list h1 rfl rfl (by simpa using rd)
    have hna := not_mem_of_deeper rdl (by simp only [PyData.depth]; omega) hb
    refine ⟨_, _ :: bs, rdl, ReadAtMost.cons rdl (by simp only [PyData.depth]; omega) hb, ?_⟩
    simp only [PyData.depth, PyData.shown]
    cases its with
    | nil =>
      cases rd
      simp only [PyData.shownAll, listText_nil]
      exact ReprK.listEmpty h1 rfl rfl
    | cons x l => exact ReprK.list h1 rfl rfl hna (by simpa using hk.length_eq) (fun i y e => hk.item i y (by simpa using e))
  | _, _, _, .tup (ds := ds) g a, h, r, hs, hz => by
    cases r
    obtain ⟨its, rv, ⟨o, h1, h2, n, h3⟩, _⟩ := I.tuple (g.sq (K := X.K))
    have hz' : (tupleText (PyData.shownAll ds)).length ≤ sizeLine := by simpa only [PyData.shown] using hz
    obtain ⟨as, bs, rd, hb, hk⟩ := dqa_reprK I a (by simpa [shX] using h) rv (by simpa [PyData.showable] using hs) fun t ht => Nat.le_trans (tupleText_mem_le ht) hz'
    have rdl : Reads s.heap (.ref _) (.tuple ds) as := .tuple h1 h2 h3 (by simpa using rd)
    have hna := not_mem_of_deeper rdl (by simp only [PyData.depth]; omega) hb
    refine ⟨_, _ :: bs, rdl, ReadAtMost.cons rdl (by simp only [PyData.depth]; omega) hb, ?_⟩
    simp only [PyData.depth, PyData.shown]
    exact ReprK.tuple h1 h2 h3 hna (by simpa using hk)
theorem dqa_reprK {pins : List (Addr × Obj)} {σ : L2.St} {H : Hp} {s : Shared} (I : Inv X pins σ H s) : ∀ {vs : List V} {ds : List D} {us : List Value}, DqAll X.K H vs ds → shXs ds = true → Vals vs us → PyData.showableAll ds = true → (∀ t ∈ PyData.shownAll ds, t.length ≤ sizeLine) →
    ∃ as bs, ReadsAll s.heap us ds as ∧ ReadAtMost s.heap (PyData.depthAll ds) bs ∧ ReprAllK X.prog X.w bs s.heap (PyData.depthAll ds) us (PyData.shownAll ds)
  | _, _, _, .nil, _, r, _, _ => by cases r; exact ⟨[], [], .nil, (fun _ h => nomatch h), by simp only [PyData.shownAll]; exact .nil⟩
  | _, _, _, .cons (d := d) (ds := ds) h t, hx, r, hs, hz => by
    simp only [shXs, Bool.and_eq_true] at hx
    have hs' : d.showable = true ∧ PyData.showableAll ds = true := by simpa [PyData.showableAll] using hs
    cases r with
    | cons r1 r2 =>
      obtain ⟨a1, b1, q1, hb1, k1⟩ := dq_reprK I h hx.1 r1 hs'.1 (hz _ (by simp only [PyData.shownAll]; exact List.mem_cons_self ..))
      obtain ⟨a2, b2, q2, hb2, k2⟩ := dqa_reprK I t hx.2 r2 hs'.2 (fun t ht => hz t (by simp only [PyData.shownAll]; exact List.mem_cons_of_mem _ ht))
      refine ⟨a1 ++ a2, b1 ++ b2, .cons q1 q2, fun b hm => ?_, ?_⟩
      · simp only [PyData.depthAll]
        rcases List.mem_append.mp hm with hm | hm
        · obtain ⟨d', as', r', hd'⟩ := hb1 b hm
          exact ⟨d', as', r', Nat.le_trans hd' (Nat.le_max_left _ _)⟩
        · obtain ⟨d', as', r', hd'⟩ := hb2 b hm
          exact ⟨d', as', r', Nat.le_trans hd' (Nat.le_max_right _ _)⟩
      · simp only [PyData.depthAll, PyData.shownAll]
        exact .cons ((k1.more fun b hb => List.mem_append_left _ hb).level_le (Nat.le_max_left _ _)) (k2.more_le (fun b hb => List.mem_append_right _ hb) (Nat.le_max_right _ _))
end
/-- the text of any row -/
theorem any_repr {pins : List (Addr × Obj)} {σ : L2.St} {H : Hp} {s : Shared} {l : Addr} {d : D} {Q : Value → Shared → Prop} {E : Value → Shared → Prop} (I : Inv X pins σ H s) (g : Dq X.K H (.ref l) d) (hL : shG d = true) (hG : X.A.guards = some []) (hu : X.A.units + 64 < cLine)
    (hQ : ∀ h' u tk, (∀ b o, s.heap.get? b = some o → h'.get? b = some o) → Q (.str (PyData.shown d) u) { s with heap := h', toks := tk }) : wpAny (model X.prog X.w) X.A (call (.builtin "repr") [.ref l]) Q E s := by
  simp only [shG, Bool.and_eq_true, decide_eq_true_eq] at hL
  obtain ⟨⟨⟨⟨k0, k1⟩, k2⟩, k3⟩, k4⟩ := hL
  have k4 : (PyData.shown d).length ≤ sizeLine := k4
  cases d with
  | list ds =>
    obtain ⟨l', ms, e, g1, g2⟩ := dp_list g
    cases e
    obtain ⟨_, its, n, rv, h1⟩ := (show ObjOk X.prog X.w H s.heap l (.lst ms) from I.hok l _ g1)
    have hz' : (listText (PyData.shownAll ds)).length ≤ sizeLine := by simpa only [PyData.shown] using k4
    obtain ⟨as, bs, rd, hb, hk⟩ := dqa_reprK I g2 (by simpa [shX] using k1) rv (by simpa [PyData.showable] using k2) fun t ht => Nat.le_trans (listText_mem_le ht) hz'
    have rdl : Reads s.heap (.ref l) (.list ds) (l :: as) := .list h1 rfl rfl (by simpa using rd)
    have hna : l ∉ bs := not_mem_of_deeper rdl (by simp only [PyData.depth]; omega) hb
    have S : ShowsBy X.prog X.w s.heap l (.list ds) "list" "list.__repr__" := by
      refine ⟨F.slot_list_repr.toG, F.slot_list_str, F.slot_list_format, fun s hk0 => ⟨_, hk0 _ _ h1, rfl⟩, fun A E s Q hg hu hk0 hQ => ?_⟩
      simp only [PyData.depth] at hu
      simp only [PyData.shown] at hQ
      cases its with
      | nil =>
        cases rd
        simp only [PyData.shownAll, listText_nil] at hQ
        exact call_list_repr_empty ⟨_, hk0 _ _ h1, rfl⟩ (hk0 _ _ h1) rfl (hQ s.heap _ _ fun _ _ e => e)
      | cons x l2 =>
        exact call_list_reprK h1 rfl rfl hna (by simpa using hk.length_eq) (fun i y e => hk.item i y (by simpa using e)) hg (fun b _ => Clear.nil b) hu hk0 hQ hz'
    simp only [PyData.depth] at k3
    exact call_repr_slot (by omega) (S.typeIs s fun _ _ h => h) S.slotRepr (S.call X.A.in1 E s _ hG (by show X.A.units + 1 + (PyData.depthAll ds + 1) < cLine; omega) (fun _ _ h => h) fun h' u tk hk => ⟨_, _, rfl, hQ h' u tk hk⟩)
  | tuple ds =>
    obtain ⟨l', ms, e, g1, g2⟩ := dp_tuple g
    cases e
    obtain ⟨its, rv, ⟨o, h1, h2, n, h3⟩, _⟩ := I.tuple (g1.sq (K := X.K))
    have hz' : (tupleText (PyData.shownAll ds)).length ≤ sizeLine := by simpa only [PyData.shown] using k4
    obtain ⟨as, bs, rd, hb, hk⟩ := dqa_reprK I g2 (by simpa [shX] using k1) rv (by simpa [PyData.showable] using k2) fun t ht => Nat.le_trans (tupleText_mem_le ht) hz'
    have rdl : Reads s.heap (.ref l) (.tuple ds) as := .tuple h1 h2 h3 (by simpa using rd)
    have hna : l ∉ bs := not_mem_of_deeper rdl (by simp only [PyData.depth]; omega) hb
    have S : ShowsBy X.prog X.w s.heap l (.tuple ds) "tuple" "tuple.__repr__" := by
      refine ⟨F.slot_tuple_repr, F.slot_tuple_str, F.slot_tuple_format, fun s hk0 => ⟨_, hk0 _ _ h1, h2⟩, fun A E s Q hg hu hk0 hQ => ?_⟩
      simp only [PyData.depth] at hu
      simp only [PyData.shown] at hQ
      exact call_tuple_reprK h1 h2 h3 hna (by simpa using hk) hg (fun b _ => Clear.nil b) hu hk0 hQ hz'
    simp only [PyData.depth] at k3
    exact call_repr_slot (by omega) (S.typeIs s fun _ _ h => h) S.slotRepr (S.call X.A.in1 E s _ hG (by show X.A.units + 1 + (PyData.depthAll ds + 1) < cLine; omega) (fun _ _ h => h) fun h' u tk hk => ⟨_, _, rfl, hQ h' u tk hk⟩)
  | _ => cases k0
theorem cd_reprT (hG : X.A.guards = some []) (hu : X.A.units + 64 < cLine) : CallD X (.builtin "repr") gReprT := by
  intro pins s σ H vs us Q I r ⟨B, as, z, sb, p, hg, q⟩
  unfold gReprT at hg
  split at hg
  · rename_i a
    split at hg
    · rename_i d e
      split at hg
      · rename_i hok
        cases hg
        cases p with
        | cons p1 p =>
          cases p
          rename_i v
          by_cases h1 : shR d = true
          · obtain ⟨l, as, rfl, rd, k3, hs, dep, k4⟩ := row_reads I sb p1 e h1
            cases Vals.ref1 r
            refine repr_of_reads' rd k3 hs hG (by omega) (fun _ _ h => h) (fun h' u tk hk => ?_) k4
            exact ⟨.str _, H, I.kept hk, ⟨u, rfl⟩, alc_val q (.str _)⟩
          · by_cases h2 : shL d = true
            · cases d with
              | list ds =>
                obtain ⟨l, ms, rfl, g1, g2⟩ := rs_list sb p1 e
                cases Vals.ref1 r
                refine list_repr I g1 (dpa_same sb g2) h2 hG hu fun h' u tk hk => ?_
                exact ⟨.str _, H, I.kept hk, ⟨u, rfl⟩, alc_val q (.str _)⟩
              | _ => cases h2
            by_cases h3 : shG d = true
            · have dq := rs_dp sb p1 e
              obtain ⟨l, rfl⟩ : ∃ l, v = V.ref l := by
                cases d with
                | list xs => obtain ⟨l, _, rfl, _⟩ := rs_list sb p1 e; exact ⟨l, rfl⟩
                | tuple xs => obtain ⟨l, _, rfl, _⟩ := rs_tuple sb p1 e; exact ⟨l, rfl⟩
                | _ => cases h3
              cases Vals.ref1 r
              refine any_repr I dq h3 hG hu fun h' u tk hk => ?_
              exact ⟨.str _, H, I.kept hk, ⟨u, rfl⟩, alc_val q (.str _)⟩
            rcases Bool.or_eq_true_iff.mp ((Bool.or_eq_true_iff.mp hok).resolve_right (by rw [Bool.or_eq_true]; exact fun z => z.elim h2 h3)) with h | hok
            · exact absurd h h1
            cases r with
            | cons r1 r2 =>
              cases r2
              have dq := rs_dp sb p1 e
              cases d with
              | none =>
                cases dp_non dq
                cases r1
                exact P.repr_of_none ⟨.str _, H, I.tok _, ⟨_, rfl⟩, alc_val q (by rw [show PyData.shown PyData.none = ("None" : Str) by simp only [PyData.shown]]; exact .str _)⟩
              | bool b =>
                cases dp_bl dq
                cases r1
                exact P.repr_of_bool ⟨.str _, H, I.tok _, ⟨_, rfl⟩, alc_val q (by rw [show PyData.shown (.bool b) = ((if b then "True" else "False" : Str)) by simp only [PyData.shown]]; exact .str _)⟩
              | int i =>
                cases dp_int dq
                obtain ⟨t, rfl⟩ := r1
                exact P.repr_of_int (of_decide_eq_true hok) ⟨.str _, H, I.tok _, ⟨_, rfl⟩, alc_val q (by rw [show PyData.shown (.int i) = (toString i : Str) by simp only [PyData.shown]]; exact .str _)⟩
              | str x =>
                cases dp_str dq
                obtain ⟨t, rfl⟩ := r1
                have hl : (reprText x).length ≤ sizeLine := by
                  have := of_decide_eq_true hok
                  rwa [PyData.shown_str] at this
                exact P.repr_of_str ⟨.str _, H, I.tok _, ⟨_, rfl⟩, alc_val q (by rw [PyData.shown_str]; exact .str _)⟩ hl
              | _ => cases hok
      · cases hg
    · cases hg
  · cases hg
end
/-- what a def keeps where no text is being made -/
structure FnOkG (P : Program) (w : World) (K : PySem.W.Frag) (mg : Str → Option Value) (base : Heap) (k : Nat) (f : Addr) (fd : FuncData) (ps : List Str) (sp : Sp) : Prop where
  len : ∀ vs H Q E, sp vs H Q E → vs.length = ps.length
  run : ∀ A, Room k A → A.guards = some [] → FnAt P w K mg base A f fd ps sp
theorem FnOkG.mono {P : Program} {w : World} {K : PySem.W.Frag} {mg : Str → Option Value} {base : Heap} {j k : Nat} {f : Addr} {fd : FuncData} {ps : List Str} {sp : Sp} (F : FnOkG P w K mg base j f fd ps sp) (h : j ≤ k) : FnOkG P w K mg base k f fd ps sp :=
  ⟨F.len, fun A hr => F.run A (hr.mono h)⟩
theorem defG_ok {P : Program} {w : World} {K : PySem.W.Frag} {mg : Str → Option Value} {base : Heap} {x qual : Str} {st : Stmt} {f : Addr} {fd : FuncData} {N ps : List Str} {k : Nat} {body : S}
    (F : Fun K x qual st f fd) (Sc : FnScope N ps (defScope st)) (hn : ps.length ≤ N.length)
    (hb : ∀ (cdv : Value) (B : Around) (st' : List Env) (s : Shared) (H : Hp) (E : XK), Room k (B.deeper (envOfC qual (defScope st) s.heap.objs.size f cdv)) → (B.deeper (envOfC qual (defScope st) s.heap.objs.size f cdv)).guards = some [] →
      L2N.Takes (cxOf (L2N.CX P w) P w K mg base N qual (defScope st) f cdv B st' s H E) (fun c d _ H => E c d H) →
      DSs (cxOf (L2N.CX P w) P w K mg base N qual (defScope st) f cdv B st' s H E) (fun c d _ H => E c d H) (defBody st) body) :
    FnOkG P w K mg base (k + 1) f fd ps (spD K mg (defSem ps.length N.length body) ps.length) :=
  ⟨fun vs H Q E h => h.1, fun A hr hG => def_at hr hG F Sc hn hb⟩
section
variable {X : Cx} {W : WX}
theorem run_fnG {k : Nat} {f : Addr} {fd : FuncData} {ps : List Str} {sp : Sp} {E : L2.St → XK} {pins : List (Addr × Obj)} {σ : L2.St} {H : Hp} {s : Shared} {Q : VK} {us : List Value} {vs : List V} (F : FnOkG X.prog X.w X.K X.mg X.base k f fd ps sp) (hr : Room k X.A) (hG : X.A.guards = some []) (hb : Binds X.K fd ps [])
    (hx : PassesAt (L2N.CX X.prog X.w) X σ (E σ)) (I : Inv X pins σ H s) (r : Vals vs us) (h : sp vs H Q (E σ)) : wpAny (model X.prog X.w) X.A (call (.ref f) us) (EP X pins σ Q) X.xe s := by
  have hl : us.length = ps.length := by rw [← r.length]; exact F.len _ _ _ _ h
  have b := hb s us I.kIn (by rw [List.append_nil]; exact hl)
  rw [List.append_nil] at b
  refine wpAny_call (codeAny_mono (F.run X.A hr hG X.stack s H ⟨us, []⟩ us vs Q (E σ) I.env0 b r h) fun r s' hq => ?_)
  cases r with
  | error e => exact hx pins H s e s' I hq
  | ok fl =>
    cases fl with
    | ret u => exact I.after hq
    | next => exact False.elim hq
    | brk => exact False.elim hq
    | cont => exact False.elim hq
theorem pe_callG {k : Nat} {f : Addr} {fd : FuncData} {ps : List Str} {sp : Sp} {E : L2.St → XK} {x : Str} {p pos : Pos} {e : Expr} {es : List Expr} {t : TA} (F : FnOkG X.prog X.w X.K X.mg X.base k f fd ps sp) (hr : Room k X.A) (hG : X.A.guards = some []) (hg : Gl X x) (hm : X.mg x = some (.ref f)) (hk : PySem.W.keepIn X.K (.ref f) = true) (hb : Binds X.K fd ps [])
    (hx : ∀ σ, PassesAt (L2N.CX X.prog X.w) X σ (E σ)) (ha : PA X (e :: es) t) (hdb : (x == ("__debug__" : Str)) = false := by decide) (he : starEach (e :: es) X.env = (false, eval e X.env) :: starEach es X.env := by rfl) (hpl : (backTo pos (starEach es X.env)).any (·.1) = false := by rfl) :
    PE X (.Call (.Name x p) (e :: es) [] pos) (tCallS sp E t) := by
  refine ⟨fun pins s σ H Q I h => ?_⟩
  refine wpAny_Call_Name_kw (ld_glob I hg hm ?_ hdb)
  refine PySem.W.callWith_K (h₀ := X.base) I.ok.mod.kin hk (thn (ha.run pos pins s σ H _ I h) fun us s1 ⟨vs, H1, I1, r, q⟩ => ⟨I1.kIn, ?_⟩) he hpl
  exact run_fnG F hr hG hb (hx σ) I1 r q
theorem de_callG {k : Nat} {f : Addr} {fd : FuncData} {ps : List Str} {sem : Sem} {x : Str} {p pos : Pos} {e : Expr} {es : List Expr} {ms : List (M AV)} (tk : L2N.Takes X W)
    (F : FnOkG X.prog X.w X.K X.mg X.base k f fd ps (spD X.K X.mg sem ps.length)) (hr : Room k X.A) (hG : X.A.guards = some []) (hg : Gl X x) (hm : X.mg x = some (.ref f)) (hk : PySem.W.keepIn X.K (.ref f) = true) (hb : Binds X.K fd ps [])
    (hn : ms.length = ps.length) (ha : DA X W (e :: es) (oL ms)) (hdb : (x == ("__debug__" : Str)) = false := by decide) (he : starEach (e :: es) X.env = (false, eval e X.env) :: starEach es X.env := by rfl) (hpl : (backTo pos (starEach es X.env)).any (·.1) = false := by rfl) :
    DE X W (.Call (.Name x p) (e :: es) [] pos) (mCall sem ms) := pe_weak (pe_callG F hr hG hg hm hk hb (fun σ => L2N.passAt tk σ) ha hdb he hpl) fun σ H Q ⟨B, r, O, h⟩ => by
  have olen : ∀ (ms : List (M AV)) (r : Ro) as r', oL ms r = some (.ok as, r') → as.length = ms.length := by
    intro ms
    induction ms with
    | nil => intro r as r' e; cases e; rfl
    | cons m ms ih =>
      intro r as r' e
      unfold oL M.bind at e
      split at e
      · cases e
      · rename_i a r1 q
        simp only [M.bind] at e
        split at e
        · cases e
        · rename_i as2 r2 q2
          cases e
          rw [List.length_cons, ih _ _ _ q2, List.length_cons]
        · cases e
      · cases e
  obtain ⟨c0, o0, r0, e0, p0⟩ := h
  have hlen : ∀ as r1, oL ms r = some (.ok as, r1) → as.length = ps.length := fun as r1 q => (olen ms r as r1 q).trans hn
  have h : At (Cx.g X) W (mCall sem ms) (rV (Cx.g X)) B r O σ H Q := ⟨c0, o0, r0, e0, p0⟩
  refine ⟨B, r, O, c0, ?_⟩
  unfold mCall M.bind at e0
  cases q : oL ms r with
  | none => rw [q] at e0; cases e0
  | some z =>
    obtain ⟨o1, r1⟩ := z
    rw [q] at e0
    refine ⟨o1, r1, rfl, ?_⟩
    cases o1 with
    | exc x => cases e0; exact p0
    | ok as =>
      intro B1 H1 O1 vs s1 c1 b1 x1
      simp only at e0
      cases q2 : looks r1 as with
      | none => rw [q2] at e0; cases e0
      | some xs =>
        rw [q2] at e0
        simp only at e0
        split at e0
        · rename_i nd
          cases q3 : sem xs with
          | none => rw [q3] at e0; cases e0
          | some z3 =>
            obtain ⟨o3, ys⟩ := z3
            rw [q3] at e0
            simp only at e0
            split at e0
            · rename_i hl
              cases e0
              have x1 : Paired (AvR X.K B1 σ) as vs := x1
              refine ⟨by rw [← x1.length]; exact hlen as r1 q, B1, lent X.K B1 H1 O1 xs vs, xs, call_in c1 q2 x1 nd.1, o0, ys, q3, hl, ?_⟩
              cases o0 with
              | ok rv =>
                intro B' H' O' v s2 c2 x2
                obtain ⟨O2, s3, c3, b3, ho⟩ := call_out c1 q2 x1 nd.1 nd.2 hl s2 c2
                refine p0 B' H' O2 v (s1.trans s3) c3 (b1.trans b3) (later_rV H H1 B' H' O2 σ rv v s1.live ?_)
                cases rv with
                | val d => exact x2
                | new ct =>
                  obtain ⟨l, F, e1, o, hF⟩ := x2
                  refine ⟨l, F, e1, o, fun a ha => ⟨(hF a ha).1, (hF a ha).2.1, fun z => ?_⟩⟩
                  rcases ho a z with z | z
                  · exact c1.liv a z (hF a ha).1
                  · exact (hF a ha).2.2 z
              | exc x =>
                intro B' H' O' c dx s2 c2 x2
                obtain ⟨O2, s3, c3, b3, ho⟩ := call_out c1 q2 x1 nd.1 nd.2 hl s2 c2
                exact p0 B' H' O2 c dx (s1.trans s3) c3 (b1.trans b3) x2
            · cases e0
        · cases e0
end
end DL
end

section
namespace DL
open PySem
end DL
end

section
namespace DL
open PySem PySem.Spec PyProof.Rows L2
section
variable {P : Program} {w : World} {A : Around} {E : Value → Shared → Prop} {s : Shared}
end
section
variable {X : Cx} {W : WX}
end
end DL
end

section
namespace DL
open PySem
end DL
end

section
namespace DL
open PySem PySem.Spec PySem.Calls PyProof.Rows L2
section
variable {X : Cx}
end
end DL
end

section
namespace DL
open PySem
/-- str(x) of a whole number -/
def gStrI : List Rs → Option RV
  | [.fz (.int i)] => if i.natAbs.log2 < 1920 then some (.val (.str (Str.ofString (toString i)))) else none
  | _ => none
end DL
end

section
namespace DL
open PySem PySem.Spec PySem.Calls PyProof.Rows L2
section
variable {X : Cx} {W : WX}
theorem cd_strI : CallD X (.type "str") gStrI := by
  intro pins s σ H vs us Q I r ⟨B, as, z, sb, p, hg, q⟩
  unfold gStrI at hg
  split at hg
  · rename_i i
    split at hg
    · rename_i hl
      cases hg
      cases p with
      | cons p1 p =>
        cases p
        cases dp_int p1
        exact call_str_int pins s σ H _ us Q I r ⟨_, rfl, hl, alc_val q (.str _)⟩
    · cases hg
  · cases hg
end
end DL
end

section
namespace DL
open PySem
end DL
end

section
namespace DL
open PySem PySem.Spec PyProof.Rows L2
section
variable {X : Cx}
end
end DL
end

section
namespace DL
open PySem
end DL
end

section
namespace DL
open PySem PySem.Spec PyProof.Rows L2
section
variable {X : Cx} {W : WX}
end
end DL
end

section
namespace DL
open PySem
end DL
end

section
namespace DL
open PySem PySem.Spec PySem.Calls PyProof.Rows L2
section
variable {X : Cx} {W : WX}
def tX (X : Cx) (W : WX) (i : Nat) (a : Addr) (m : S) : TS := fun D σ H => σ[i]? = some (some (V.ref a)) ∧ tS (Cx.g X) W m D σ H
theorem dxx_of {i : Nat} {a : Addr} {sts : List Stmt} {m : S} (h : DSs X W sts m) : PSs X sts (tX X W i a m) := pss_weak h fun D σ H h => h.2
theorem dxx_set {i j : Nat} {a : Addr} {x : Str} {e : Expr} {pos pos' : Pos} {sts : List Stmt} {m : M RV} {m2 : S} (hN : X.N.Nodup) (hi : X.N[j]? = some x) (hx : Loc X.env.scope x) (he : DEx X W i a e m) (ht : PSs X sts (tX X W i a m2)) (hne : j ≠ i := by decide)
    (hs : swapsWith e (some (.Name x pos')) pos.line X.env = pure false := by rfl)
    (hf : X.fn x = true ∨ X.env.scope.names.lookup x = some .local := by first | exact .inl rfl | exact .inr rfl | assumption) : PSs X (.Assign [.Name x pos'] e pos :: sts) (tX X W i a (sSeq (sSet j m) m2)) :=
  pss_weak (pss_cons (ps_set hN hi hx he hs hf) ht) fun D σ H ⟨hi, B, r, O, h⟩ => by
    refine ⟨hi, tG.of (h.seq.ex.mono ?_)⟩
    rintro y H1 ⟨v, B1, r1, O1, s1, b1, x1, c1, o, r', e, p⟩
    obtain ⟨rfl, O2, c2, b2, h2⟩ := put_ok c1 e x1 s1.live
    exact ⟨by rw [List.getElem?_set_ne hne]; exact hi, p B1 H1 O2 _ (put_step s1 h2) c2 (b1.trans b2)⟩
theorem call_reads {n : Nat} {sem : Sem} {ms : List (M AV)} {σ : L2.St} {H : Hp} {Q : VK} (hn : ms.length = n) (h : tG (Cx.g X) W (mCall sem ms) (rV (Cx.g X)) σ H Q) :
    tCallS (spD X.K X.mg sem n) (fun σ => WE W σ) (tG (Cx.g X) W (oL ms) (rL (Cx.g X))) σ H Q := by
  obtain ⟨B, r, O, h⟩ := h
  have olen : ∀ (ms : List (M AV)) (r : Ro) as r', oL ms r = some (.ok as, r') → as.length = ms.length := by
    intro ms
    induction ms with
    | nil => intro r as r' e; cases e; rfl
    | cons m ms ih =>
      intro r as r' e
      unfold oL M.bind at e
      split at e
      · cases e
      · rename_i a r1 q
        simp only [M.bind] at e
        split at e
        · cases e
        · rename_i as2 r2 q2
          cases e
          rw [List.length_cons, ih _ _ _ q2, List.length_cons]
        · cases e
      · cases e
  obtain ⟨c0, o0, r0, e0, p0⟩ := h
  have hlen : ∀ as r1, oL ms r = some (.ok as, r1) → as.length = n := fun as r1 q => (olen ms r as r1 q).trans hn
  have h : At (Cx.g X) W (mCall sem ms) (rV (Cx.g X)) B r O σ H Q := ⟨c0, o0, r0, e0, p0⟩
  refine ⟨B, r, O, c0, ?_⟩
  unfold mCall M.bind at e0
  cases q : oL ms r with
  | none => rw [q] at e0; cases e0
  | some z =>
    obtain ⟨o1, r1⟩ := z
    rw [q] at e0
    refine ⟨o1, r1, rfl, ?_⟩
    cases o1 with
    | exc x => cases e0; exact p0
    | ok as =>
      intro B1 H1 O1 vs s1 c1 b1 x1
      simp only at e0
      cases q2 : looks r1 as with
      | none => rw [q2] at e0; cases e0
      | some xs =>
        rw [q2] at e0
        simp only at e0
        split at e0
        · rename_i nd
          cases q3 : sem xs with
          | none => rw [q3] at e0; cases e0
          | some z3 =>
            obtain ⟨o3, ys⟩ := z3
            rw [q3] at e0
            simp only at e0
            split at e0
            · rename_i hl
              cases e0
              have x1 : Paired (AvR X.K B1 σ) as vs := x1
              refine ⟨by rw [← x1.length]; exact hlen as r1 q, B1, lent X.K B1 H1 O1 xs vs, xs, call_in c1 q2 x1 nd.1, o0, ys, q3, hl, ?_⟩
              cases o0 with
              | ok rv =>
                intro B' H' O' v s2 c2 x2
                obtain ⟨O2, s3, c3, b3, ho⟩ := call_out c1 q2 x1 nd.1 nd.2 hl s2 c2
                refine p0 B' H' O2 v (s1.trans s3) c3 (b1.trans b3) (later_rV H H1 B' H' O2 σ rv v s1.live ?_)
                cases rv with
                | val d => exact x2
                | new ct =>
                  obtain ⟨l, F, e1, o, hF⟩ := x2
                  refine ⟨l, F, e1, o, fun a ha => ⟨(hF a ha).1, (hF a ha).2.1, fun z => ?_⟩⟩
                  rcases ho a z with z | z
                  · exact c1.liv a z (hF a ha).1
                  · exact (hF a ha).2.2 z
              | exc x =>
                intro B' H' O' c dx s2 c2 x2
                obtain ⟨O2, s3, c3, b3, ho⟩ := call_out c1 q2 x1 nd.1 nd.2 hl s2 c2
                exact p0 B' H' O2 c dx (s1.trans s3) c3 (b1.trans b3) x2
            · cases e0
        · cases e0
theorem oE_reads {m : M RV} {σ : L2.St} {H : Hp} {Q : VK} (h : tG (Cx.g X) W (oE m) (rA (Cx.g X)) σ H Q) : tG (Cx.g X) W m (rV (Cx.g X)) σ H Q := by
  obtain ⟨B, r, O, c, o, r', e, p⟩ := h
  refine ⟨B, r, O, c, ?_⟩
  unfold oE M.bind at e
  cases q : m r with
  | none => rw [q] at e; cases e
  | some z =>
    obtain ⟨o1, r1⟩ := z
    rw [q] at e
    refine ⟨o1, r1, rfl, ?_⟩
    cases o1 with
    | exc x => cases e; exact p
    | ok rv =>
      simp only [M.of] at e
      cases qd : rv.data with
      | none => rw [qd] at e; cases e
      | some d =>
        rw [qd] at e
        cases e
        intro B1 H1 O1 v s1 c1 b1 x1
        obtain ⟨B2, s2, c2, dp, _⟩ := c1.frozen s1 x1 qd
        exact p B2 H1 O1 v s2 c2 b1 dp
theorem dex_bin {i : Nat} {ad : Addr} {a b : Expr} {op : Operator} {pos : Pos} {g : List Rs → Option RV} {oa : M AV} {m : M RV} (ho : OpD X (binaryOp op) g) (ha : DO X W a oa) (hb : DEx X W i ad b m) : DEx X W i ad (.BinOp a op b pos) (mOp g [oa, oE m]) :=
  pe_weak (pe_op ho ha hb) fun σ H Q ⟨hi, B, r, O, h⟩ => by
    rw [mOp_two] at h
    refine tG.of ((h.bind later_rV (R := rA (Cx.g X))).mono ?_)
    rintro x H1 ⟨a, B1, r1, O1, s1, x1, h1⟩
    refine ⟨hi, oE_reads (tG.of ((h1.bind later_rV (R := rA (Cx.g X))).mono ?_))⟩
    rintro y H2 ⟨b, B2, r2, O2, s2, x2, h2⟩
    obtain ⟨xs, z, sb, p, hg, q⟩ := h2.fin (.cons (x1.same s2.sB) (.cons x2 .nil))
    cases p with
    | cons p1 p => cases p with
      | cons p2 p =>
        cases p
        exact ⟨B2, _, _, z, sb, p1, p2, hg, q⟩
end
end DL
end

section
set_option maxHeartbeats 2000000
namespace DL
open PySem PySem.Spec PySem.Calls PyProof.Rows L2
abbrev HotC := L2H.HotC
/-- the turning of a range's iterator where an exception is handled -/
structure TurnK (P : Program) (w : World) (K : PySem.W.Frag) (tg : Expr) (J : It) (it : Addr) (tn : Nat → Heap → Prop) : Prop where
  obj : ∀ i h, tn i h → ∃ o, h.get? it = some o ∧ ∀ v, o.data ≠ .cell v
  keep : ∀ i h h', tn i h → (∀ o, h.get? it = some o → h'.get? it = some o) → tn i h'
  item : ∀ (X : Cx), X.prog = P → X.w = w → X.K = K → ∀ (i : Nat) (pins : List (Addr × Obj)) (s : Shared) (σ : L2.St) (H : Hp) (E : Value → Shared → Prop), Inv X pins σ H s → FpOk X pins H it → tn i s.heap → J.go i H →
    wpAny (model P w) X.A (pyNext (.ref it)) (fun r s1 => ∃ u, r = some u ∧
      wpAny (model P w) X.A (letOwnedTupleGo tg (.ref it) u) (fun _ s2 => ∃ x H', Inv X pins σ H' s2 ∧ RelV x u ∧ J.yld i H x H' ∧ tn (i + 1) s2.heap ∧ H' it = none) E s1) E s
  done : ∀ (X : Cx), X.prog = P → X.w = w → X.K = K → ∀ (i : Nat) (pins : List (Addr × Obj)) (s : Shared) (σ : L2.St) (H : Hp) (E : Value → Shared → Prop) (x1 : Addr), HotX.HotAt X.A x1 s.heap → Inv X pins σ H s → FpOk X pins H it → tn i s.heap → J.stop i H →
    wpAny (model P w) X.A (pyNext (.ref it)) (fun r s1 => r = none ∧ Inv X pins σ H s1) E s
  self : ∀ (A : Around) (i : Nat) (s : Shared) (Q : Value → Shared → Prop) (E : Value → Shared → Prop), tn i s.heap → Q (.ref it) s → wpAny (model P w) A (pyIter (.ref it)) Q E s
def PIEK (X : Cx) (pins : List (Addr × Obj)) (σ : L2.St) (tg : Expr) (R : It → Hp → Prop) (itv : Value) (s2 : Shared) : Prop :=
  ∃ (it : Addr) (tn : Nat → Heap → Prop) (J : It) (H' : Hp), itv = .ref it ∧ Inv X pins σ H' s2 ∧ TurnK X.prog X.w X.K tg J it tn ∧ tn 0 s2.heap ∧ FpOk X pins H' it ∧ R J H'
structure PIK (X : Cx) (tg iter : Expr) (wi : TI) : Prop where
  run : ∀ (pins : List (Addr × Obj)) (s : Shared) (σ : L2.St) (H : Hp) (R : It → Hp → Prop), Inv X pins σ H s → wi σ H R →
    wpAny (model X.prog X.w) X.A (eval iter X.env) (fun v s1 => wpAny (model X.prog X.w) X.A (pyIter v) (PIEK X pins σ tg R) X.xe s1) X.xe s
section
variable {X : Cx} {tg : Expr}
theorem takesN0 {X : Cx} : L2N.Takes X (fun _ _ _ _ => False) := fun _ _ x => by
  obtain ⟨_, _, _, _, _, _, _, _, _, _, _, _, _, _, _, _, z⟩ := x
  exact z.elim
/-- the handled exception stands where a block is entered -/
def HotIn (X : Cx) (s : Shared) (H : Hp) (fp : List Addr) : Prop := ∃ p : Addr × Obj, L2H.Hot1 X.A p ∧ s.heap.get? p.1 = some p.2 ∧ H p.1 = none ∧ p.1 ∉ frs X.stack ∧ p.1 ∉ fp
theorem HotIn.at {X : Cx} {s s' : Shared} {H H' : Hp} {fp : List Addr} {scope : Scope} {ce : Env} {pins : List (Addr × Obj)} {σ : L2.St} (h : HotIn X s H fp) (I : Inv (X.blk s H scope ce fp) pins σ H' s') : ∃ x1, HotX.HotAt X.A x1 s'.heap := by
  obtain ⟨p, ⟨hh, v1, e1, c1⟩, h1, h2, h3, h4⟩ := h
  exact ⟨p.1, hh, p.2, v1, I.base.keep p.1 p.2 h1 h2 h3 h4, e1, c1⟩
theorem lc_coreK {pins : List (Addr × Obj)} {s : Shared} {σ : L2.St} {H : Hp} {Q : VK} {elt iter : Expr} {ifs : List Expr} {scope : Scope} {own : List (Str × Nat)} {pos pos' : Pos} {wi : TI} {g : TG} {tt : TT} {te : TE} {use : Option (Value → PySem.Sem Unit)} {Qf : Value → Shared → Prop}
    (hc : HotC X) (hN : X.N.Nodup) (I : Inv X pins σ H s) (hi : PIK X tg iter wi) (ok : BlkOk X.N X.env.scope scope own)
    (hg : ∀ (s : Shared) (H : Hp) (C : Addr) (cl : List (Str × Addr)) (fp : List Addr), HotIn X s H fp → PG (X.blk s H scope (compEnvC scope cl C X.env) fp) tg g) (ht : ∀ (s : Shared) (H : Hp) (C : Addr) (cl : List (Str × Addr)) (fp : List Addr), PTs (X.blk s H scope (compEnvC scope cl C X.env) fp) ifs tt)
    (he : ∀ (s : Shared) (H : Hp) (C : Addr) (cl : List (Str × Addr)) (fp : List Addr), PE (X.blk s H scope (compEnvC scope cl C X.env) fp) elt te) (hs : ∀ x, foldedSetIterable iter X.env x = pure x)
    (h : tLc wi g tt te (own.map (·.2)) σ H Q)
    (hRR : ∀ D C s' m H', Inv X pins σ H' s' → Q (.ref D) H' → s'.heap.Ns C m → FpOk X pins H' C → compPost (model X.prog X.w) X.A X.xe use Qf (.ref D) C (.ok .next) s') :
    wpAny (model X.prog X.w) X.A (comprehension (.ListComp elt [⟨tg, iter, ifs, 0⟩] scope pos) scope X.env pos' (newList []) false (eval iter X.env) use) Qf X.xe s := by
  have hfree : ∀ y ∈ scope.names, y.2 = .free → ∃ c, X.env.cells.lookup y.1 = some c := fun y hy e => (ok.free y hy e).elim (fun k => I.ok.has _ (.inl k)) fun k => I.ok.has _ (.inr k)
  refine wpAny_comprehension_free (use := use) rfl hs (closure_ok hfree) ok.kind (fun y hy e => by rw [ok.uniq y hy, e]) (thn (hi.run pins s σ H _ I h) fun xv s1 hx => thn hx fun itv s2 h2 => ?_)
  obtain ⟨it, tn, J, H2, e, I2, T, st2, f2, q⟩ := h2
  subst e
  refine wpAny_newObj_type (newEnv_comp ?_) (by show 0 ≤ sizeLine; decide)
  generalize hD : s2.heap.objs.size = D
  have hDn : H2 D = none := I2.hok.fresh (Nat.le_of_eq hD)
  obtain ⟨W, ⟨m0, w0⟩, turn⟩ := q D hDn
  generalize hs3 : ({ s2 with heap := s2.heap.push { cls := .type "list", data := .seq ([] : List Value).toArray } } : Shared) = s3
  have h3 : s3.heap = s2.heap.push { cls := .type "list", data := .seq ([] : List Value).toArray } := by rw [← hs3]
  have I3 : Inv X pins σ (upd H2 D (.lst [])) s3 := by
    rw [← hs3]
    refine I2.laid (t' := s2.toks) (fun b o e => Heap.get?_push_of_some _ e) (Nat.le_of_eq hD) ⟨Nat.zero_le _, [], 0, .nil, ?_⟩
    rw [← hD]
    exact Heap.get?_push_size _ rfl
  have hlt : it < s2.heap.objs.size := by
    obtain ⟨o, e, _⟩ := T.obj _ _ st2
    exact Heap.lt_size e
  have f3 : FpOk X pins (upd H2 D (.lst [])) it := ⟨by rw [upd_ne (by rw [← hD]; exact Nat.ne_of_lt hlt)]; exact f2.1, f2.2⟩
  have f3s : it < s3.heap.objs.size := by rw [h3, Heap.size_push]; exact Nat.lt_succ_of_lt hlt
  have f3L : ∀ b ∈ [it], FpOk X pins (upd H2 D (.lst [])) b ∧ b < s3.heap.objs.size := fun b hb => by
    rw [List.mem_singleton.mp hb]
    exact ⟨f3, f3s⟩
  have st3 : tn 0 s3.heap := T.keep _ _ _ st2 fun o e => by rw [h3]; exact Heap.get?_push_of_some _ e
  have I4 := block_start I3 ok hN f3L
  have hIn : HotIn X s3 (upd H2 D (.lst [])) [it] := by
    obtain ⟨p, h1, hp⟩ := hc
    have P := I3.pin p (List.mem_append_left _ hp)
    exact ⟨p, h1, P.1, P.2.1, fun hm => (List.mem_cons.mp (I3.stkSub p.1 hm)).elim P.2.2.1 P.2.2.2.1, fun hm => f3.2.2.2.2.2 p (List.mem_append_left _ hp) (List.mem_singleton.mp hm)⟩
  have pg := hg s3 (upd H2 D (.lst [])) s3.heap.objs.size (cellsFrom (s3.heap.objs.size + 1) scope.names (cloFrom X.env.cells scope.names [])) [it] hIn
  have pt := ht s3 (upd H2 D (.lst [])) s3.heap.objs.size (cellsFrom (s3.heap.objs.size + 1) scope.names (cloFrom X.env.cells scope.names [])) [it]
  have pe := he s3 (upd H2 D (.lst [])) s3.heap.objs.size (cellsFrom (s3.heap.objs.size + 1) scope.names (cloFrom X.env.cells scope.names [])) [it]
  show codeAny _ _ (.compStart (.ListComp elt [⟨tg, iter, ifs, 0⟩] scope pos) 0 (.ref it) (.ref D) (compEnvC scope (cellsFrom (s3.heap.objs.size + 1) scope.names (cloFrom X.env.cells scope.names [])) s3.heap.objs.size X.env)) (compPost (model X.prog X.w) X.A X.xe use Qf (.ref D) s3.heap.objs.size) { s3 with heap := pushCells (s3.heap.push { cls := .type "dict", data := .dict #[] }) scope.names }
  have nit : (upd H2 D (.lst [])) it = none := f3.1
  generalize hce : compEnvC scope (cellsFrom (s3.heap.objs.size + 1) scope.names (cloFrom X.env.cells scope.names [])) s3.heap.objs.size X.env = ce at I4 pg pt pe ⊢
  have cL : ce.locals = s3.heap.objs.size := by subst hce; rfl
  generalize hH3 : upd H2 D (.lst []) = H3 at I3 I4 pg pt pe w0 nit f3 f3L
  generalize hs4 : ({ s3 with heap := pushCells (s3.heap.push { cls := .type "dict", data := .dict #[] }) scope.names } : Shared) = s4 at I4 ⊢
  have st4 : tn 0 s4.heap := T.keep _ _ _ st3 fun o e => by rw [← hs4]; exact pushCells_keeps _ _ _ _ (Heap.get?_push_of_some _ e)
  have stat : ∀ {σ' : L2.St} {H' : Hp} {s' : Shared}, Inv (X.blk s3 H3 scope ce [it]) [] σ' H' s' → H' it = none → FpOk (X.blk s3 H3 scope ce [it]) [] H' it := fun {σ' H' s'} I' hn =>
    ⟨hn, (I'.ok.exf it (List.mem_singleton.mpr rfl)).1, I'.ok.exfs it (List.mem_singleton.mpr rfl), .inl (List.mem_singleton.mpr rfl), fun x c e => (I'.ok.exf it (List.mem_singleton.mpr rfl)).2 x c e, fun p hp => absurd (show p ∈ ([] : List (Addr × Obj)) ++ [] from hp) (by simp)⟩
  -- the handled exception stands as it was
  have hotB : ∀ {σ' : L2.St} {H' : Hp} {s' : Shared}, Inv (X.blk s3 H3 scope ce [it]) [] σ' H' s' → ∃ x1, HotX.HotAt X.A x1 s'.heap := fun {σ' H' s'} I' => by
    obtain ⟨p, ⟨hh, v1, e1, c1⟩, hp⟩ := hc
    have P := I3.pin p (List.mem_append_left _ hp)
    have nS : p.1 ∉ frs X.stack := fun hm => (List.mem_cons.mp (I3.stkSub p.1 hm)).elim P.2.2.1 P.2.2.2.1
    have nI : p.1 ∉ [it] := fun hm => f3.2.2.2.2.2 p (List.mem_append_left _ hp) (List.mem_singleton.mp hm)
    exact ⟨p.1, hh, p.2, v1, I'.base.keep p.1 p.2 P.1 P.2.1 nS nI, e1, c1⟩
  have loop : codeAny (model X.prog X.w) X.A (.compLoop (.ListComp elt [⟨tg, iter, ifs, 0⟩] scope pos) 0 (.ref it) (.ref D) ce) (compPost (model X.prog X.w) X.A X.xe use Qf (.ref D) s3.heap.objs.size) s4 := by
    refine compLoop_any (fun n s' => ∃ i H', Inv (X.blk s3 H3 scope ce [it]) [] (wipe σ (own.map (·.2))) H' s' ∧ tn i s'.heap ∧ H' it = none ∧ W i n H') ?_ m0 ⟨0, H3, I4, st4, nit, w0⟩
    rintro n s5 ⟨i, H5, I5, st5, n5, w5⟩
    rcases turn i n H5 w5 with ⟨stop, qq⟩ | ⟨go, Nx, hNx, step⟩
    · obtain ⟨x1, hot⟩ := hotB I5
      refine thnF (T.done (X.blk s3 H3 scope ce [it]) rfl rfl rfl i [] s5 _ H5 (fun _ _ => False) x1 hot I5 (stat I5 n5) st5 stop) fun r s6 ⟨hr, I6⟩ => ?_
      subst hr
      have I7 : Inv X pins σ H5 s6 := I3.call' (ch := [it]) I6.os I6.base I6.hok I6.bare fun b hb => by
        rw [List.mem_singleton.mp hb]
        exact ⟨f3.2.2.2.1, f3.2.1, f3.2.2.2.2.1, f3.2.2.2.2.2⟩
      have nC : H5 s3.heap.objs.size = none := by
        rw [← cL]
        exact I6.free
      obtain ⟨m, hn, _⟩ := I6.loc
      have hn : s6.heap.Ns ce.locals m := hn
      rw [cL] at hn
      exact hRR D s3.heap.objs.size s6 m H5 I7 qq hn (I3.fpOk (Nat.le_refl _) nC)
    · refine thnF (T.item (X.blk s3 H3 scope ce [it]) rfl rfl rfl i [] s5 _ H5 (fun _ _ => False) I5 (stat I5 n5) st5 go) fun r s6 ⟨u, hr, h6⟩ => ?_
      subst hr
      refine thnF h6 fun _ s7 ⟨x, H7, I7, r7, y7, st7, n7⟩ => ?_
      have I7' := I7.pinned (fp := [it]) (fun b hb => by rw [List.mem_singleton.mp hb]; exact stat I7 n7) (fun b hb => by rw [List.mem_singleton.mp hb]; exact T.obj _ _ st7)
      refine thnF (pg.run _ s7 _ H7 x u _ I7' r7 (step x H7 y7)) fun _ s8 ⟨σ8, H8, I8, hw8, q8⟩ => ?_
      refine thnF (pt.run _ s8 σ8 H8 _ I8 q8) fun b s9 ⟨H9, I9, q9⟩ => ?_
      have fin : ∀ {s' : Shared} {H' : Hp}, Inv (X.blk s3 H3 scope ce [it]) ([] ++ pinsAt [it] s7.heap) σ8 H' s' → Nx H' → ∃ m, m < n ∧ ∃ i H', Inv (X.blk s3 H3 scope ce [it]) [] (wipe σ (own.map (·.2))) H' s' ∧ tn i s'.heap ∧ H' it = none ∧ W i m H' := fun {s' H'} I' nx => by
        obtain ⟨m', hm, w'⟩ := hNx H' nx
        have pin' : ∀ o, s7.heap.get? it = some o → s'.heap.get? it = some o ∧ H' it = none := fun o e =>
          let z := I'.pin (it, o) (List.mem_append_right _ (List.mem_append_right _ (mem_pinsAt (List.mem_singleton.mpr rfl) e)))
          ⟨z.1, z.2.1⟩
        have hl : (wipe σ (own.map (·.2))).length = σ8.length := by rw [← hw8, wipe_length]
        obtain ⟨o, eo, _⟩ := T.obj _ _ st7
        refine ⟨m', hm, i + 1, H', (I'.unpinned (pins := [])).weak hl (fun j v e => ?_), T.keep _ _ _ st7 fun o e => (pin' o e).1, (pin' o eo).2, w'⟩
        rw [← hw8] at e
        exact (wipe_some e).1
      cases b with
      | false =>
        simp only [Bool.false_eq_true, if_false] at q9 ⊢
        exact fin I9 q9
      | true =>
        simp only [if_true] at q9 ⊢
        refine thnF (pe.run _ s9 σ8 H9 _ I9 q9) fun z s10 ⟨yv, H10, I10, r10, acc, hD10, hz10, nx⟩ => ?_
        exact app_ok (X := X.blk s3 H3 scope ce [it]) I10 hD10 hz10 r10 fun s11 I11 => fin I11 nx
  exact codeAny_compStart_list loop (T.self X.A 0 _ _ _ st4 loop)
end
section
variable {X : Cx} {W : WX}
def DIK (X : Cx) (W : WX) (lo : Bool) (tg iter : Expr) (m : M (List D)) : Prop := PIK X tg iter (tG (Cx.g X) W m (rI (Cx.g X) lo))
theorem pik_weak {tg e : Expr} {t t' : TI} (h : PIK X tg e t) (w : ∀ σ H Q, t' σ H Q → t σ H Q) : PIK X tg e t' := ⟨fun pins s σ H Q I q => h.run pins s σ H Q I (w σ H Q q)⟩
end
end DL
end

section
namespace DL
open PySem
/-- a new dict stands still -/
def mFzK (m : M RV) : M RV := m.bind fun rv => fun r => match rv with
  | .new (.dK kvs) => if oneI (kvs.map fun kv => (kD kv.1, kv.2)) then some (.ok (.val (.dict (kvs.map fun kv => (kD kv.1, kv.2)))), r) else none
  | _ => none
def mDik (l : List (Int × Int)) : M RV := M.ret (.val (.dict (l.map fun p => (.int p.1, .int p.2))))
end DL
end

section
namespace DL
open PySem PySem.Spec PySem.Calls PyProof.Rows L2
theorem kvr_dk {K : PySem.W.Frag} {B : Hp} : ∀ {vs : List (Ky × V)} {kvs : List (Ky × D)}, KvR K B vs kvs → (kvs.map fun kv => (kD kv.1, kv.2)) = dkD (vs.map (·.1)) (kvs.map (·.2)) ∧ DqAll K B (vs.map (·.2)) (kvs.map (·.2)) ∧ vs.length = kvs.length
  | _, _, .nil => ⟨rfl, .nil, rfl⟩
  | _, _, .cons h t => by
    obtain ⟨a, b, c⟩ := kvr_dk t
    refine ⟨?_, .cons h.2 b, by simp [c]⟩
    rw [List.map_cons, a, ← h.1]
    rfl
section
variable {X : Cx} {W : WX}
/-- a new dict stands still -/
theorem de_fzK {e : Expr} {m : M RV} (h : DE X W e m) : DE X W e (mFzK m) :=
  pe_weak h fun σ H Q ⟨B, r, O, c, o, r', e, p⟩ => by
    unfold mFzK M.bind at e
    cases q : m r with
    | none => rw [q] at e; cases e
    | some z =>
      obtain ⟨o1, r1⟩ := z
      rw [q] at e
      refine ⟨B, r, O, c, o1, r1, q, ?_⟩
      cases o1 with
      | exc x => cases e; exact p
      | ok rv =>
        intro B1 H1 O1 v s1 c1 b1 x1
        simp only at e
        cases rv with
        | val d => cases e
        | new ct =>
          cases ct with
          | dK kvs =>
            simp only at e
            split at e
            case isFalse => cases e
            rename_i hm1
            cases e
            obtain ⟨l, F, e1, ⟨rfl, vs, g1, g2⟩, hF⟩ := x1
            subst e1
            obtain ⟨n1, n2, n3⟩ := hF l (by simp)
            have c2 := c1.still g1 n2 n3
            obtain ⟨k1, k2, k3⟩ := kvr_dk g2
            exact p _ _ O1 _ ⟨s1.sB.trans (same_new n2), s1.keep, s1.live, fun a q1 q2 q3 => by
              rw [upd_ne (show a ≠ l from fun e => q1 (by rw [e]; exact n1))]
              exact s1.nB a q1 q2 q3, s1.nO⟩ c2 b1 (.dii upd_same (dpa_same (same_new n2) k2) k1 hm1 rfl)
          | _ => cases e
/-- {i: j, k: l} -/
theorem de_dik2 {i j k l : Int} {a b c d : Expr} {pos : Pos} (ha : PE X a (L2.tC (.int i))) (hb : PE X b (L2.tC (.int j))) (hc : PE X c (L2.tC (.int k))) (hd : PE X d (L2.tC (.int l))) (hik : i ≠ k) : DE X W (.Dict [some a, some c] [b, d] pos) (mDik [(i, j), (k, l)]) :=
  pe_weak (pe_disp (pps_cons ha hb (pps_cons hc hd pps_nil)) rfl rfl (by simp) (by simp)) fun σ H Q ⟨B, r, O, co, o, r', e, p⟩ => by
    cases e
    intro q hq
    obtain ⟨bp, np, c1, s1⟩ := co.lay (o := .dK []) hq
    refine ⟨upd_same, [(.inl i, .int j), (.inl k, .int l)], rfl, by simp, ?_⟩
    have hm : mergeK ([] : List (Key × V)) [(.inl i, .int j), (.inl k, .int l)] = [(.inl i, .int j), (.inl k, .int l)] := by
      simp [mergeK, putK, hik]
    rw [hm]
    have e2 : upd (upd H q (.dK [])) q (.dK [(.inl i, .int j), (.inl k, .int l)]) = upd H q (.dK [(.inl i, .int j), (.inl k, .int l)]) := by
      funext x
      by_cases h : x = q
      · subst h; rw [upd_same, upd_same]
      · rw [upd_ne h, upd_ne h, upd_ne h]
    rw [e2]
    obtain ⟨c2, s2⟩ := co.layF (o := .dK [(.inl i, .int j), (.inl k, .int l)]) hq
    exact p _ _ O _ s2 c2 .refl (.dii (kvs := [(.inl i, .int j), (.inl k, .int l)]) (ds := [.int j, .int l]) upd_same (.cons (.int j) (.cons (.int l) .nil)) rfl rfl rfl)
end
end DL
end

section
namespace DL
open PySem
def rowL : D → Option (List D)
  | .list xs => some xs
  | _ => none
def mRowL (m : M RV) : M (List D) := (mFz m).bind fun d => M.of (rowL d)
end DL
end

section
set_option maxHeartbeats 2000000
namespace DL
open PySem PySem.Spec PySem.Calls PyProof.Rows L2
section
variable {prog : Program} {w : World} {A : Around} {E : Value → Shared → Prop} {s : Shared}
theorem pyNext_list_end_hot {it l x1 : Addr} {i : Nat} {items} {Q : Option Value → Shared → Prop} (hot : HotX.HotAt A x1 s.heap) (hit : s.heap.IsListIter it l i) (hl : s.heap.IsList l items) (hx : items[i]? = none)
    (hQ : ∀ h', Heap.ExtBut it s.heap h' → Q none { s with heap := h' }) : wpAny (model prog w) A (pyNext (.ref it)) Q E s := by
  obtain ⟨o, ho, hc, hd⟩ := id hit
  obtain ⟨ol, hol, _, nl, hdl⟩ := hl
  obtain ⟨hh, o1, vs1, h1, d1, c1⟩ := hot
  have n1 : it ≠ x1 := fun z => by
    rw [← z, ho] at h1
    cases h1
    rw [hd] at d1
    cases d1
    simp at c1
  unfold pyNext
  refine wpAny_bind (wpAny_attempt (wpAny_callSpecial?_slot (name := Str.ofString "__next__") hit.typeIs slot_listiter_next
    (wpAny_call_entry slot_listiter_next hit.typeIs entry_listiter_next ?_ (args_listiter_next _))))
  show wpAny _ _ (field (.ref it) 0 >>= _) _ _ s
  refine wpAny_bind (wpAny_field ho hd (x := .ref l) rfl ?_)
  show wpAny _ _ (if (Value.ref l == Value.none) = true then _ else _) _ _ s
  rw [if_neg (show ¬ ((Value.ref l == Value.none) = true) from Bool.false_ne_true)]
  show wpAny _ _ (field (.ref it) 1 >>= _) _ _ s
  refine wpAny_bind (wpAny_field ho hd (x := .int i 0) rfl ?_)
  show wpAny _ _ (seqItems? (.ref l) >>= _) _ _ s
  refine wpAny_bind (wpAny_seqItems hol hdl ?_)
  simp only [Int.toNat_natCast, hx]
  refine wpAny_bind (wpAny_rule (wpAny_bind (wpAny_setField ho hd (by simp) ?_)))
  show wpAny _ _ (newExc (.type "StopIteration") [] >>= _) _ _ _
  refine wpAny_bind ?_
  simp only [newExc, newTuple]
  refine wpAny_bind (wpAny_newObj_type ?_ (by size_fits))
  refine wpAny_bind (m := firstArgMember _ _) (wpAny_of_eq (a := Value.none) (by first | rfl | (simp only [firstArgMember]; rfl)) ?_)
  refine wpAny_newObj_type ?_ (by size_fits)
  have g1 : ∀ f, (s.heap.update it f).get? x1 = some o1 := fun f => (Heap.get?_update_other _ _ n1).trans h1
  refine HotX.raiseNew_hot ⟨hh, o1, vs1, Heap.get?_push_of_some _ (Heap.get?_push_of_some _ (g1 _)), d1, c1⟩ (Nat.ne_of_lt (Heap.lt_size (Heap.get?_push_of_some _ (g1 _)))) (Heap.get?_push_size _ rfl) rfl (by first | (simp; done) | (simp; omega) | (simp only [Array.size_append]; simp; omega)) ?_
  refine wpAny_bind (wpAny_isInstance (T := "StopIteration") (b := true) ⟨_, Heap.get?_update_self _ (Heap.get?_push_size _ rfl) rfl, rfl⟩ isSubtype_stop ?_)
  refine wpAny_pure (hQ _ ?_)
  intro b u hb e
  have e0 : ∀ f, (s.heap.update it f).get? b = some u := fun f => (Heap.get?_update_other _ _ (Ne.symm hb)).trans e
  rw [Heap.get?_update_other _ _ (Nat.ne_of_gt (Heap.lt_size (Heap.get?_push_of_some _ (e0 _))))]
  exact Heap.get?_push_of_some _ (Heap.get?_push_of_some _ (e0 _))
end
theorem turnK_list {P : Program} {w : World} {K : PySem.W.Frag} {tg : Expr} (a it : Addr) : TurnK P w K tg (Itl K a) it (fun i h => h.IsListIter it a i) where
  obj := fun i h st => by
    obtain ⟨o, e, c, d⟩ := st
    exact ⟨o, e, fun v z => by rw [d] at z; cases z⟩
  keep := fun i h h' st k => st.at fun o e => k o e
  item := by
    intro X hP hw hK i pins s σ H E I hf st hg
    subst hP hw hK
    obtain ⟨xs, x, hq, hx⟩ := hg
    obtain ⟨its, rv, p, hz⟩ := I.list hq
    obtain ⟨u, hu, ru⟩ := rv.get hx
    obtain ⟨f0, f1, f2, f3, f4, f5⟩ := hf
    refine wpAny_pyNext_list_item st p.isList (x := u) (by simpa using hu) fun h' st' sb => ?_
    have I1 : Inv X pins σ H { s with heap := h' } := I.turned (t' := s.toks) (fun b o hb e => (sb.2 b hb).trans e) f0 f1 f3 f4 f5
    obtain ⟨o, e, c, d⟩ := id st'
    exact ⟨u, rfl, go_of (s := { s with heap := h' }) e c d (by decide) ⟨x, H, I1, ru, ⟨rfl, fun ys hy => by rw [I.list_inj hy hq]; exact hx⟩, st', f0⟩⟩
  done := by
    intro X hP hw hK i pins s σ H E x1 hot I hf st hg
    subst hP hw hK
    obtain ⟨xs, hq, hx⟩ := hg
    obtain ⟨its, rv, p, hz⟩ := I.list hq
    obtain ⟨f0, f1, f2, f3, f4, f5⟩ := hf
    have hl := rv.length
    exact pyNext_list_end_hot hot st p.isList (by simp; omega) fun h' eb => ⟨rfl, I.turned (t' := s.toks) (fun b o hb e => eb b o hb e) f0 f1 f3 f4 f5⟩
  self := fun _ _ _ _ _ st h => wpAny_pyIter_listiter st h
section
variable {X : Cx} {W : WX} {tg : Expr}
theorem pik_list {l : Expr} {tl : TE} (hl : PE X l tl) : PIK X tg l (iList X.K tl) := by
  refine ⟨fun pins s σ H R I h => ?_⟩
  refine thn (hl.run pins s σ H _ I h) fun v s1 ⟨x, H1, I1, r1, q1⟩ => ?_
  obtain ⟨a, e, ⟨xs, hq⟩, q⟩ := q1
  subst e
  cases r1
  obtain ⟨its, rv, p, hz⟩ := I1.list hq
  refine wpAny_pyIter_list p.isList ?_
  exact ⟨s1.heap.objs.size, _, _, H1, rfl, I1.kept (t' := s1.toks) fun b o e => Heap.get?_push_of_some _ e, turnK_list a _, ⟨_, Heap.get?_push_size _ rfl, rfl, rfl⟩, I1.fpOk (Nat.le_refl _) (I1.hok.fresh (Nat.le_refl _)), q⟩
theorem dik_list {lo : Bool} {e : Expr} {m : M RV} (h : DE X W e m) : DIK X W lo tg e (mRowL m) := pik_weak (pik_list h) fun σ H R ⟨B, r, O, h⟩ => by
  refine tG.of (At.froz ((h.bind later_rI (R := rD (Cx.g X))).mono ?_))
  rintro v H1 ⟨d, B1, r1, O1, s1, dp, h1⟩
  have dp : Dq X.K B1 v d := dp
  obtain ⟨c, o, r', e, p⟩ := h1
  cases q : rowL d with
  | none => rw [q] at e; cases e
  | some ds =>
    rw [q] at e
    cases e
    cases d with
    | list xs =>
      cases q
      obtain ⟨a, xs, rfl, hs, ha⟩ := dp_list dp
      exact ⟨a, rfl, ⟨xs, .of (c.sub _ _ hs)⟩, p B1 H1 O1 _ .refl c .refl (serves_list (.of hs) ha)⟩
    | _ => cases q
end
end DL
end

section
set_option maxHeartbeats 2000000
namespace DL
open PySem PySem.Spec PySem.Calls PyProof.Rows L2
section
variable {Y : Cx} {W : WX}
/-- isinstance of the exception that a context pins -/
theorem call_isY {a D : Addr} {oe : Obj} (hp : (a, oe) ∈ Y.pn) (C : ExcC Y.K D) (hz : L2N.Zn (.ref D) none oe) (hf : ∃ vs, oe.data = .fields vs) : CallR Y (.builtin "isinstance") (rIsE Y.K D a) := by
  intro pins s σ H xs us Q I r h
  obtain ⟨c, cv, b, rfl, hcv, e, q⟩ := h
  cases r with
  | cons rx rr =>
    cases rr with
    | cons rt rr =>
      cases rr
      cases rx
      have ec := hcv _ rt
      subst ec
      obtain ⟨hget, _⟩ := I.pin (a, oe) (List.mem_append.mpr (.inl hp))
      obtain ⟨vs, hv⟩ := hf
      have J : PySem.W.InstAt s.heap a oe D none := by
        obtain ⟨oc, od, oda, osl⟩ := oe
        obtain ⟨h1, h2, _⟩ := hz
        dsimp only at h1 h2 hv
        subst h1 h2 hv
        exact ⟨hget, rfl, rfl, trivial⟩
      exact PySem.W.kia_one (PySem.W.handS_kitx_exc C.hg C.hk C.hs C.hd C.ha C.hn C.ht C.hm) I.kIn J e (fun z => nomatch z) fun tk => ⟨.bl b, H, I.kept (t' := tk) fun _ _ z => z, rfl, q⟩
theorem dex_isiY {a D : Addr} {oe : Obj} {i : Nat} {n T : Str} {c : V} {cv : Value} {b : Bool} {p p1 p2 pos : Pos} (hp : (a, oe) ∈ Y.pn) (C : ExcC Y.K D) (hz : L2N.Zn (.ref D) none oe) (hf : ∃ vs, oe.data = .fields vs)
    (hg : Gl Y "isinstance") (hm : Y.mg "isinstance" = none) (ho : PE Y (.Name n p1) (tVar i)) (hT : PE Y (.Name T p2) (tC c)) (hc : ClsV c cv) (hk : PySem.W.kitOne Y.K (.ref D) cv = some b)
    (h1 : starEach [.Name n p1, .Name T p2] Y.env = (false, eval (.Name n p1) Y.env) :: starEach [.Name T p2] Y.env := by rfl) (h2 : starEach [.Name T p2] Y.env = (false, eval (.Name T p2) Y.env) :: starEach [] Y.env := by rfl)
    (hpl : (backTo pos (starEach [.Name T p2] Y.env)).any (·.1) = false := by rfl) (hv : bootBuiltins "isinstance" = some (.builtin "isinstance") := by decide +kernel) :
    DEx Y W i a (.Call (.Name "isinstance" p) [.Name n p1, .Name T p2] [] pos) (mC (.bool b)) :=
  pe_weak (pe_callB (X := Y) (call_isY hp C hz hf) hg hm hv (pa_cons ho (pa_cons hT pa_nil h2) h1) (by decide) (by decide) h1 hpl) fun σ H Q ⟨hi, B, r, O, h⟩ =>
    ⟨.ref a, hi, c, cv, b, rfl, fun u hu => (hc.eq hu), hk, h.ret (Dq.bl b)⟩
end
/-- as def_read, of a def whose only argument is no data -/
theorem def_read0 {K : PySem.W.Frag} {mg : Str → Option Value} {N : List Str} {body : S} {Q : VK} {E : XK} {H : Hp} {a : Addr} (hn : 0 < N.length) (h : spD K mg (defSem 0 N.length body) 0 [] H Q E) :
    tS ⟨K, mg⟩ (fun c d _ H => E c d H) body { nx := fun _ H' => Q .non H', rt := Q } (start N [V.ref a]) H := by
  obtain ⟨hv, B, O, xs, c, o, ys, e, hy, p⟩ := h
  have hx : xs = [] := List.eq_nil_of_length_eq_zero (by have := c.len; simpa using this)
  subst hx
  have cp := c.pad (N := N) (Nat.zero_le _)
  have es : (start N ([] : List V)).set 0 (some (V.ref a)) = start N [V.ref a] := by
    unfold L2.start
    cases N with
    | nil => simp at hn
    | cons a N => simp [List.replicate_succ]
  have c2 := cp.replace (i := 0) (x := .non) (σ' := start N [V.ref a]) (by rw [← es, List.length_set]) (fun k hk => by rw [← es, List.getElem?_set_ne (Ne.symm hk)]) trivial (fun _ _ z => by cases z)
  have er : ∀ n : Nat, (([] : List Rs).map toSl ++ List.replicate n Sl.non).set 0 .non = List.replicate n .non := fun n => by simp
  rw [er] at c2
  simp only [List.length_nil, Nat.sub_zero] at c2
  unfold defSem at e
  rw [if_pos (show ([] : List Rs).length = 0 from rfl)] at e
  have hr0 : ([] : List Rs).map toSl ++ List.replicate (N.length - 0) Sl.non = List.replicate N.length .non := by simp
  rw [hr0] at e
  have cp0 := c2.shrink (O' := fun _ => False) (fun _ h => h.elim) fun i b ct l F e _ _ => by
    simp [List.getElem?_replicate] at e
  have up : ∀ {B' H' : Hp} {O' : Addr → Prop}, Step B H (fun _ => False) B' H' O' → Step B H O B' H' O' := fun s => ⟨s.sB, fun a o h _ => s.keep a o h (fun z => z), s.live, fun a h _ => s.nB a h (fun z => z), fun a h => (s.nO a h).elim (fun z => z.elim) .inr⟩
  have ex : ∀ {B' H' O' σ' r'}, Same B B' → Con K B' H' σ' r' O' → Bor (List.replicate N.length .non) (start N [V.ref a]) r' σ' → Con K B' H' (([] : List V).map some) (List.zipWith exitSl [] (outs [] 0 r')) O' := fun sB c' b =>
    exit_con (σ0 := start N [V.ref a]) (m := N.length) c sB (fun k hk => absurd hk (by simp)) c' (by simpa using b)
  refine ⟨B, _, _, cp0, ?_⟩
  cases q : body (List.replicate N.length .non) with
  | none => rw [q] at e; cases e
  | some z =>
    obtain ⟨so, r'⟩ := z
    rw [q] at e
    refine ⟨so, r', rfl, ?_⟩
    cases so with
    | nx =>
      cases e
      exact fun B' H' O' σ' s c' b => p B' H' O' .non (up s) (ex s.sB c' b) .non
    | ret v =>
      cases e
      exact fun B' H' O' σ' x s c' b rv => p B' H' O' x (up s) (ex s.sB c' b) rv
    | rets i =>
      simp only [handOn] at e
      split at e
      · rename_i c3 q2
        rw [if_pos (show allFz [] = true from rfl)] at e
        cases e
        intro B' H' O' σ' x s c' b hx
        obtain ⟨l, F, h1, h2, h3⟩ := c'.own i _ _ q2
        rw [hx] at h1
        cases h1
        have c4 := c'.release q2 hx h2
        have b2 : Bor (List.replicate N.length .non) (start N [V.ref a]) (r'.set i .non) σ' := b.trans (bor_set q2 fun z => by cases z)
        refine p B' H' (fun a => O' a ∧ a ∉ F) _ ⟨s.sB, fun a o h _ => s.keep a o h (fun z => z), s.live, fun a h _ => s.nB a h (fun z => z), fun a h => (s.nO a h.1).elim (fun z => z.elim) .inr⟩ (ex s.sB c4 b2) ⟨l, F, rfl, h2, fun a ha => ⟨?_, c'.off a (h3 a ha), fun z => z.2 ha⟩⟩
        exact (s.nO a (h3 a ha)).elim (fun z => z.elim) (fun z => z)
      · cases e
    | exc x =>
      cases e
      exact fun B' H' O' σ' k dx s c' b rx => p B' H' O' k dx (up s) (ex s.sB c' b) rx
    | brk => cases e
    | cnt => cases e
/-- a def that is handed the handled exception, of the class D -/
structure FnW (P : Program) (w : World) (K : PySem.W.Frag) (mg : Str → Option Value) (base : Heap) (k : Nat) (f : Addr) (fd : FuncData) (x : Str) (D : Addr) (sem : Sem) : Prop where
  run : ∀ (A : Around) (outer : List Env) (s : Shared) (H : Hp) (args : Args) (us : List Value) (Q : VK) (E : XK) (p : Addr × Obj), L2H.RoomH k A → L2H.Hot1 A p → L2H.PinOk outer H s p → L2N.Zn (.ref D) none p.2 → (∃ vs, p.2.data = .fields vs) → Env0 P w K mg base A outer s H → BindsTo s fd args ([x].zip us) →
    us = [.ref p.1] → spD K mg sem 0 [] H Q E → codeAny (model P w) A (.call (.ref f) args) (CR (L2N.CX P w) outer P w H s Q E) s
theorem fnw_of {P : Program} {w : World} {K : PySem.W.Frag} {mg : Str → Option Value} {base : Heap} {x qual : Str} {st : Stmt} {f D : Addr} {fd : FuncData} {y : Str} {N : List Str} {k : Nat} {body : S} (F : Fun K x qual st f fd) (S : FnScope N [y] (defScope st)) (hn : 0 < N.length)
    (hbody : ∀ (cdv : Value) (A : Around) (outer : List Env) (s : Shared) (H : Hp) (E : XK) (p : Addr × Obj), L2H.Hot1 A p → L2H.RoomH k (A.deeper (envOfC qual (defScope st) s.heap.objs.size f cdv)) → L2N.Zn (.ref D) none p.2 → (∃ vs, p.2.data = .fields vs) →
      PSs (L2H.cxH (L2N.CX P w) P w K mg base N qual (defScope st) f cdv A outer s H E p) (defBody st) (fun D σ H => σ[0]? = some (some (V.ref p.1)) ∧ tS ⟨K, mg⟩ (fun c d _ H => E c d H) body D σ H)) :
    FnW P w K mg base (k + 1) f fd y D (defSem 0 N.length body) := by
  obtain ⟨oc, od, kV, doc, pm, an, cdv, ct, osl, rfl, lk, hcd⟩ := F.ex
  refine ⟨fun A outer s H args us Q E p hr hot hpin hz hf e0 hb hus hsp => ?_⟩
  subst hus
  have KX : K.In s.heap := e0.mod.kin.keeps fun b o e => (e0.bs b o e).1
  have lim : s.heap.NoLimit := e0.mod.nolimit.keeps fun b o e => (e0.bs b o e).1
  have hkind : ∀ z ∈ [y].zip [Value.ref p.1], (defScope st).names.lookup z.1 = some .local ∨ ((defScope st).names.lookup z.1 = some .cell ∧ ((cellsFrom (s.heap.objs.size + 1) (defScope st).names []).lookup z.1).isSome = true) := fun ⟨n, v⟩ hy => by
    rcases S.par n (List.of_mem_zip hy).1 with q | q
    · exact .inl q
    · exact .inr ⟨q, PySem.W.cellsFrom_some _ _ _ (.inl q)⟩
  refine codeAny_call_function hr.depth (KX _ _ lk) rfl S.co S.gen rfl (PySem.W.codeRec_of KX hcd) (hb _ _ _ _ ?_)
  refine wpAny_newFunctionEnv_cells S.kind hkind fun env he s1 x => ?_
  subst he
  refine ⟨lim.keeps x.toInCall.keep, codeAny_func ?_⟩
  have ht := hbody cdv A outer s H E p hot (hr.deeper _) hz hf
  have I := L2H.inv_startH (CX := L2N.CX P w) (vs := [V.ref p.1]) (E := E) S hpin e0 rfl (.cons rfl .nil) x
  have h0 : (start N [V.ref p.1])[0]? = some (some (V.ref p.1)) := rfl
  have rd2 : tS ⟨K, mg⟩ (fun c d _ H => E c d H) body { nx := fun _ H' => Q .non H', rt := Q } (start N [V.ref p.1]) H := by
    exact def_read0 hn hsp
  refine wpAny_mono (ht.run [] s1 (start N [V.ref p.1]) H _ I ⟨h0, rd2⟩) (fun fl s' hs => ?_) fun e s' hs => hs
  have fin : ∀ {σ' : L2.St} {H' : Hp} {v : V} {u : Value}, Inv (L2H.cxH (L2N.CX P w) P w K mg base N qual (defScope st) f cdv A outer s H E p) [] σ' H' s' → RelV v u → Q v H' → CE outer P w H s Q u s' :=
    fun {σ' H' v u} J rv q => ⟨v, H', J.os, J.bare, J.base, J.hok, rv, q⟩
  cases fl with
  | ret u =>
    obtain ⟨v, σ', H', J, rv, q⟩ := hs
    exact fin J rv q
  | next =>
    obtain ⟨σ', H', J, q⟩ := hs
    exact fin (v := V.non) (u := Value.none) J rfl q
  | brk =>
    obtain ⟨_, _, _, q⟩ := hs
    exact False.elim q
  | cont =>
    obtain ⟨_, _, _, q⟩ := hs
    exact False.elim q
end DL
end

section
set_option maxHeartbeats 2000000
namespace DL
open PySem PySem.Spec PySem.Calls PyProof.Rows L2
section
variable {X : Cx} {W : WX}
theorem dex_wordC {a D f : Addr} {oe : Obj} {pn : List (Addr × Obj)} {i k : Nat} {fd : FuncData} {x y n : Str} {sem : Sem} {p p1 pos : Pos} (F : FnW X.prog X.w X.K X.mg X.base k f fd y D sem) (hr : Room k X.A) (hz : L2N.Zn (.ref D) none oe) (hf : ∃ vs, oe.data = .fields vs)
    (hg : Gl X x) (hm : X.mg x = some (.ref f)) (hk : PySem.W.keepIn X.K (.ref f) = true) (hb : Binds X.K fd [y] []) (ho : PE (X.suite a ((a, oe) :: pn)) (.Name n p1) (tVar i))
    (hdb : (x == ("__debug__" : Str)) = false := by decide) (he : starEach [.Name n p1] X.env = (false, eval (.Name n p1) X.env) :: starEach [] X.env := by rfl) (hpl : (backTo pos (starEach [] X.env)).any (·.1) = false := by rfl) :
    DEx (X.suite a ((a, oe) :: pn)) (fun _ _ _ _ => False) i a (.Call (.Name x p) [.Name n p1] [] pos) (mCall sem []) := by
  refine ⟨fun pins s σ H Q I h => ?_⟩
  obtain ⟨hi, h⟩ := h
  refine wpAny_Call_Name_kw (ld_glob (X := X.suite a ((a, oe) :: pn)) I hg hm ?_ hdb)
  have ha : PA (X.suite a ((a, oe) :: pn)) [.Name n p1] (tCons (tVar i) tNil) := pa_cons ho pa_nil he
  refine PySem.W.callWith_K (h₀ := X.base) I.ok.mod.kin hk (thn (ha.run pos pins s σ H (fun vs H1 => vs = [V.ref a] ∧ H1 = H) I ⟨.ref a, hi, rfl, rfl⟩) fun us s1 ⟨vs, H1, I1, r1, q1⟩ => ⟨I1.kIn, ?_⟩) he hpl
  obtain ⟨rfl, rfl⟩ := q1
  obtain rfl : us = [Value.ref a] := by
    cases r1 with
    | cons r2 r3 => cases r3; cases r2; rfl
  have hot : L2H.Hot1 (X.suite a ((a, oe) :: pn)).A (a, oe) := by
    obtain ⟨vs, hv⟩ := hf
    exact ⟨rfl, vs, hv, hz.2.2 vs hv⟩
  have P1 := I1.pin (a, oe) (List.mem_append_left _ List.mem_cons_self)
  have hpin : L2H.PinOk X.stack H1 s1 (a, oe) := ⟨P1.1, P1.2.1, fun hm => (List.mem_cons.mp (I1.stkSub a hm)).elim P1.2.2.1 P1.2.2.2.1, P1.2.2.2.2⟩
  have b := hb s1 [Value.ref a] I1.kIn rfl
  rw [List.append_nil] at b
  have hsp : spD X.K X.mg sem 0 [] H1 Q (fun _ _ _ => False) := by
    have z := call_reads (X := X.suite a ((a, oe) :: pn)) (n := 0) (sem := sem) (ms := []) rfl h
    obtain ⟨B, r, O, c, o, r', e, q⟩ := z
    cases e
    exact q B H1 O [] .refl c .refl .nil
  have env := I1.env0
  refine wpAny_call (codeAny_mono (F.run (X.suite a ((a, oe) :: pn)).A X.stack s1 H1 ⟨[.ref a], []⟩ [.ref a] Q (fun _ _ _ => False) (a, oe) ⟨hr.dp, hr.un⟩ hot hpin hz hf env b rfl hsp) fun r s' hq => ?_)
  cases r with
  | error e =>
    obtain ⟨_, _, _, _, _, _, _, _, _, _, _, _, z⟩ := hq
    exact z.elim
  | ok fl =>
    cases fl with
    | ret u => exact I1.after hq
    | next => exact False.elim hq
    | brk => exact False.elim hq
    | cont => exact False.elim hq
end
end DL
end

section
set_option maxHeartbeats 2000000
namespace DL
open PySem PySem.Spec PySem.Calls PyProof.Rows L2
open LamX (CodeO TabS Tabs ExtN TabB LamS lamEnv)
/-- the table at P, behind the making of a lambda -/
def NewT (H : Hp) (P : Addr) (q : Str) (ps : Array Value) (H1 : Hp) : Prop := H1 = H ∨ ∃ (more : Array Value) (c' : Addr), H c' = none ∧ TriplesOk (ps ++ more).toList ∧
  (∀ (pos : Pos) (cv : Value), codeAmong pos (ps ++ more).toList = some cv → codeAmong pos ps.toList = some cv ∨ cv = .ref c') ∧ H1 = upd (upd H P (.tbl (ps ++ more))) c' (CodeO c' q)
/-- the lambda is made: its code object is new, or found in the table at P; all else stays -/
theorem lam_make3 {X : Cx} {pins : List (Addr × Obj)} {σ : L2.St} {H : Hp} {s : Shared} {c P : Addr} {params : Arguments} {body : Expr} {scope : Scope} {pos : Pos} {E Q : Value → Shared → Prop} (I : Inv X pins σ H s) (TB : TabB X.base X.mg c P) (hcode : X.env.code = .ref c)
    {ps : Array Value} (hP : H P = some (.tbl ps)) (ht : TriplesOk ps.toList) (ha : ∀ (pos : Pos) (cv : Value), codeAmong pos ps.toList = some cv → ∃ c, cv = .ref c ∧ H c = some (CodeO c (X.env.qual ++ "<lambda>"))) (hdef : defaultsOf params X.env = ([], [])) (hfree : ∀ y ∈ scope.names, y.2 = .free → ∃ c, X.env.cells.lookup y.1 = some c)
    (h : ∀ (f c' : Addr) (pm ctv : Value) (H1 : Hp) (s' : Shared), Inv X pins σ H1 s' → NewT H P (X.env.qual ++ "<lambda>") ps H1 →
      s'.heap.get? f = some (PySem.W.kla_obj "<lambda>" (X.env.qual ++ "<lambda>") params body scope (cloFrom X.env.cells scope.names []) pm c' ctv) → H1 f = none → f ∉ frs X.stack → H1 c' = some (CodeO c' (X.env.qual ++ "<lambda>")) → Q (.ref f) s') :
    wpAny (model X.prog X.w) X.A (eval (.Lambda params body scope pos) X.env) Q E s := by
  have bP : s.heap.BuiltinsAt X.mg P := TB.bm.keeps I.bk
  have hP' : s.heap.get? P = some { cls := .none, data := .fields ps } := I.hok P _ hP
  have nofr : ∀ f, s.heap.objs.size ≤ f → f ∉ frs X.stack := fun f hf z => (List.mem_cons.mp (I.stkSub _ z)).elim (fun e => by
    have h1 := I.lt
    rw [← e] at h1
    exact absurd h1 (Nat.not_lt.mpr hf)) fun e => I.nofs hf e
  refine PySem.W.kla_eval hdef ?_
  cases hc : codeAmong pos ps.toList with
  | some cv =>
    obtain ⟨c', rfl, hco⟩ := ha pos cv hc
    refine PySem.W.kla_makeFunctionHit (mg := X.mg) (c := c) (P := P) (ps := ps) (closure_ok hfree) I.ok.glob (I.mod.glob.keeps I.bk) hcode (TB.code.keeps I.bk) hP' ht hc bP fun ctv h' tk hx hsz => ?_
    exact h h'.objs.size c' ((X.mg "__name__").getD .none) ctv H _ (I.kept (t' := tk) fun b o e => Heap.get?_push_of_some _ (hx b o e)) (.inl rfl) (Heap.get?_push_size _ rfl) (I.hok.fresh hsz) (nofr _ hsz) hco
  | none =>
    refine PySem.W.kla_makeFunction (mg := X.mg) (c := c) (P := P) (ps := ps) (closure_ok hfree) I.ok.glob (I.mod.glob.keeps I.bk) hcode (TB.code.keeps I.bk) hP' ht hc TB.gP bP fun c' ctv h' tk hx hge hlt hrec htb => ?_
    obtain ⟨c2, oc, vs, t, e2, hoc, hd, hv⟩ := hrec
    cases e2
    have hsz : s.heap.objs.size ≤ h'.objs.size := Nat.le_trans hge (Nat.le_of_lt hlt)
    have nC : H c' = none := I.hok.fresh hge
    have nP : P ≠ c' := ne_of_none hP nC
    have I1 := LamX.inv_table (t' := tk) (more := #[rawInt pos.line, rawInt pos.col, .ref c']) (h' := h'.push (PySem.W.kla_obj "<lambda>" (X.env.qual ++ "<lambda>") params body scope (cloFrom X.env.cells scope.names []) ((X.mg "__name__").getD .none) c' ctv)) I hP
      (fun b o hb e => Heap.get?_push_of_some _ (hx b o hb e)) (Heap.get?_push_of_some _ htb) hge ⟨oc, vs, t, Heap.get?_push_of_some _ hoc, hd, hv⟩
    have eL : (ps ++ #[rawInt pos.line, rawInt pos.col, .ref c']).toList = ps.toList ++ [rawInt pos.line, rawInt pos.col, .ref c'] := by simp
    refine h h'.objs.size c' ((X.mg "__name__").getD .none) ctv _ _ I1 (.inr ⟨_, c', nC, by rw [eL]; exact PySem.TriplesOk_snoc _ _ _ _ ht, fun p' cv hcv => ?_, rfl⟩) (Heap.get?_push_size _ rfl) ?_ (nofr _ hsz) upd_same
    · rw [eL] at hcv
      exact LamX.among_app _ ht hcv
    · rw [upd_ne (Nat.ne_of_gt hlt), upd_ne (Nat.ne_of_gt (Nat.lt_of_lt_of_le (Heap.lt_size hP') hsz))]
      exact I.hok.fresh hsz
/-- the context of the lambda's body -/
abbrev lamN (X : Cx) (A : Around) (outer : List Env) (s : Shared) (H : Hp) (E : XK) (scope : Scope) (f c' : Addr) : Cx :=
  { LamX.lamCx X A outer s H E scope f c' with
    xe := fun e s' => wpAny (model X.prog X.w) (A.deeper (lamEnv X scope s.heap.objs.size f c')) (leaving (lamEnv X scope s.heap.objs.size f c') e) (fun _ s'' => L2N.CX X.prog X.w outer H s E e s'') (fun e' s'' => L2N.CX X.prog X.w outer H s E e' s'') s' }
section
variable {X : Cx} {pins : List (Addr × Obj)} {σ : L2.St} {H HZ : Hp} {s s1 : Shared}
theorem lam_startN {A : Around} {outer : List Env} {E : XK} {scope : Scope} {f c' : Addr} {h₁ : Heap} {tk : Nat} (I : Inv X pins σ H s) (L : LamS X.env.scope scope) (e0 : Env0 X.prog X.w X.K X.mg X.base A outer s1 HZ) (hd : A.handled = none)
    (un : Un (frs X.stack) [] H HZ s.heap s1.heap) (hns : h₁.Ns s1.heap.objs.size fun y => ([] : List (Str × Value)).reverse.lookup y) (kp : ∀ b o, s1.heap.get? b = some o → h₁.get? b = some o) :
    Inv (lamN X A outer s1 HZ E scope f c') [] σ HZ { s1 with heap := h₁, toks := tk } :=
  Inv.wish (X := LamX.lamCx X A outer s1 HZ E scope f c') (LamX.lam_start2 I L e0 hd un hns kp) _
theorem pe_actN {CXg : CXT} {Eg : XK} {Ng : List Str} {qg : Str} {sg : Scope} {g f c' : Addr} {cdg pm ctv : Value} {params : Arguments} {body : Expr} {scope : Scope} {k i : Nat} {a : Str} {pn : List (Addr × Obj)} {xe : Value → Shared → Prop} {W : WX} {E : XK} {tb : TE} {p1 p2 : Pos}
    (I : Inv X pins σ H s) (L : LamS X.env.scope scope) (hf : s.heap.get? f = some (PySem.W.kla_obj "<lambda>" (X.env.qual ++ "<lambda>") params body scope (cloFrom X.env.cells scope.names []) pm c' ctv)) (hfn : H f = none) (hfr : f ∉ frs X.stack)
    (hbind : bindArgs (PySem.W.kla_fn "<lambda>" (X.env.qual ++ "<lambda>") params body scope (cloFrom X.env.cells scope.names []) pm (.ref c') ctv) ⟨[], []⟩ = pure [])
    (tk : L2N.Takes ((cxOf CXg X.prog X.w X.K X.mg X.base Ng qg sg g cdg X.A X.stack s H Eg).tr pn xe) W) (hW : ∀ cls d σ' H', E cls d H' → W cls d σ' H') (hr : Room (k + 1) (X.A.deeper (envOfC qg sg s.heap.objs.size g cdg)))
    (hbody : ∀ (A : Around) (outer : List Env) (s : Shared) (H : Hp), Room k (A.deeper (lamEnv X scope s.heap.objs.size f c')) → PE (lamN X A outer s H E scope f c') body tb)
    (hN : Ng[i]? = some a) (hv : Vis sg a) (hd : (a == ("__debug__" : Str)) = false := by decide) (hcd : (a == ("__classdict__" : Str)) = false := by decide) :
    PE ((cxOf CXg X.prog X.w X.K X.mg X.base Ng qg sg g cdg X.A X.stack s H Eg).tr pn xe) (.Call (.Name a p1) [] [] p2)
      (fun σZ HZ Q => σZ[i]? = some (some (.ref f)) ∧ HZ c' = some (CodeO c' (X.env.qual ++ "<lambda>")) ∧ tb σ HZ Q) := by
  refine ⟨fun pinsZ sZ σZ HZ Q IZ h => ?_⟩
  obtain ⟨hs, hc, ht⟩ := h
  refine wpAny_Call_Name_kw (thn ((pe_var (pos := p1) (i := i) hN hv hd hcd).run pinsZ sZ σZ HZ (fun v H1 => v = .ref f ∧ H1 = HZ) IZ ⟨.ref f, hs, rfl, rfl⟩) fun u s1 ⟨v, H1, I1, r1, q1⟩ => ?_)
  obtain ⟨ev, eH⟩ := q1
  subst ev
  rw [eH] at I1
  obtain rfl : u = Value.ref f := r1
  have of1 : s1.heap.get? f = some (PySem.W.kla_obj "<lambda>" (X.env.qual ++ "<lambda>") params body scope (cloFrom X.env.cells scope.names []) pm c' ctv) := I1.base.keep f _ hf hfn hfr (fun z => nomatch (show f ∈ ([] : List Addr) from z))
  refine PySem.W.callWith_F0 ⟨_, _, _, _, of1⟩ ?_
  have un : Un (frs X.stack) [] H HZ s.heap s1.heap := I1.base
  obtain ⟨⟨oc, vs, t, hoc, hdc, hvc⟩, _, _⟩ := I1.hok c' _ hc
  have rc : codeAny (model X.prog X.w) (X.A.deeper (envOfC qg sg s.heap.objs.size g cdg)) (.call (.ref f) ⟨[], []⟩) (CR (L2N.CX X.prog X.w) (envOfC qg sg s.heap.objs.size g cdg :: X.stack) X.prog X.w HZ s1 Q E) s1 := by
    refine PySem.W.kla_callFunE hr.depth of1 rfl L.co L.gen rfl ⟨c', oc, vs, t, rfl, hoc, hdc, hvc⟩ ?_
    rw [hbind]
    refine wpAny_pure (wpAny_newFunctionEnv (fun y hy => (L.own y hy).2) (fun y hy => absurd hy (by simp)) (fun h₁ hns hsb => ⟨I1.nolimit.fresh _ hsb, ?_⟩) L.kind)
    show codeAny _ _ (.expr body (lamEnv X scope s1.heap.objs.size f c')) _ _
    have kp : ∀ b o, s1.heap.get? b = some o → h₁.get? b = some o := fun b o e => hsb.extBut b o (Nat.ne_of_lt (Heap.lt_size e)) (Heap.get?_push_of_some _ e)
    have J : Inv (lamN X (X.A.deeper (envOfC qg sg s.heap.objs.size g cdg)) (envOfC qg sg s.heap.objs.size g cdg :: X.stack) s1 HZ E scope f c') [] σ HZ { s1 with heap := h₁, toks := s1.toks + ([] : List (Str × Value)).length } :=
      lam_startN I L I1.env0 hr.hd un hns kp
    refine PySem.W.kla_codeExpr (wpAny_mono ((hbody _ _ s1 HZ (hr.deeper _)).run [] _ _ HZ Q J ht) (fun v s' hq => ?_) fun e s' hq => hq)
    obtain ⟨w', H', J', rv, q⟩ := hq
    exact ⟨w', H', J'.os, J'.bare, J'.base, J'.hok, rv, q⟩
  have hx : Passes (L2N.CX X.prog X.w) ((cxOf CXg X.prog X.w X.K X.mg X.base Ng qg sg g cdg X.A X.stack s H Eg).tr pn xe) E := L2N.passes_call tk hW
  refine wpAny_call (codeAny_mono rc fun r s' hq => ?_)
  cases r with
  | error e => exact hx pinsZ σZ HZ s1 e s' I1 hq
  | ok fl =>
    cases fl with
    | ret u => exact I1.after hq
    | next => exact False.elim hq
    | brk => exact False.elim hq
    | cont => exact False.elim hq
end
end DL
end

section
set_option maxHeartbeats 2000000
namespace DL
open PySem PySem.Spec PySem.Calls PyProof.Rows L2
open LamX (CodeO TabS Tabs ExtN TabB LamS lamEnv)
/-- the def that calls what it got: a calls it; TT: what it makes of the lambda's reading -/
def GivesN (X : Cx) (Ng : List Str) (x : Str) (sg : Scope) (g : Addr) (cdg : Value) (bg : List Stmt) (a : Str) (q : Str) (TT : (XK → Hp → VK → Prop) → Hp → VK → Prop) : Prop :=
  ∀ (f c' : Addr) (s : Shared) (H : Hp) (Q : VK) (tl : XK → Hp → VK → Prop),
    (∀ (W : WX) (pn : List (Addr × Obj)) (xe : Value → Shared → Prop) (E : XK) (p1 p2 : Pos), L2N.Takes ((cxOf C8.CX0 X.prog X.w X.K X.mg X.base Ng x sg g cdg X.A X.stack s H C8.E0).tr pn xe) W → (∀ cls d σ' H', E cls d H' → W cls d σ' H') →
      PE ((cxOf C8.CX0 X.prog X.w X.K X.mg X.base Ng x sg g cdg X.A X.stack s H C8.E0).tr pn xe) (.Call (.Name a p1) [] [] p2) (fun σZ HZ Q => σZ[0]? = some (some (.ref f)) ∧ HZ c' = some (CodeO c' q) ∧ tl E HZ Q)) →
    H c' = some (CodeO c' q) → TT tl H Q →
    ∃ t, PSs (cxOf C8.CX0 X.prog X.w X.K X.mg X.base Ng x sg g cdg X.A X.stack s H C8.E0).nox bg t ∧ t { nx := fun _ H' => Q .non H', rt := Q } (L2.start Ng [.ref f]) H
def tLamP (P : Addr) (q : Str) (TT : (XK → Hp → VK → Prop) → Hp → VK → Prop) (t : XK → TE) : TE := fun σ H Q =>
  ∃ ps : Array Value, H P = some (.tbl ps) ∧ TriplesOk ps.toList ∧ (∀ (pos : Pos) (cv : Value), codeAmong pos ps.toList = some cv → ∃ c, cv = .ref c ∧ H c = some (CodeO c q)) ∧ ∀ H1, NewT H P q ps H1 → TT (fun E H' Q' => t E σ H' Q') H1 Q
section
variable {X : Cx}
theorem pe_lamN {TT : (XK → Hp → VK → Prop) → Hp → VK → Prop} {x a : Str} {g c P : Addr} {k : Nat} {pg : Arguments} {bg : List Stmt} {sg : Scope} {dV kV doc pm cdv ct oc : Value} {an od : Option Addr} {osl : Array (Option Value)} {Ng : List Str}
    {params : Arguments} {body : Expr} {scope : Scope} {t : XK → TE} {p lpos pos : Pos} (hg : Gl X x) (hm : X.mg x = some (.ref g)) (hk : PySem.W.keepIn X.K (.ref g) = true)
    (lk : X.K.lookup g = some ⟨oc, od, .func (PySem.W.fnOf x x pg bg sg dV kV doc pm an cdv ct), osl⟩) (hcg : PySem.W.codeIn X.K cdv x = true) (hb : L2.Binds X.K (PySem.W.fnOf x x pg bg sg dV kV doc pm an cdv ct) [a] []) (Sg : FnScope Ng [a] sg) (hNg : Ng[0]? = some a) (hva : Vis sg a)
    (hG : GivesN X Ng x sg g cdv bg a (X.env.qual ++ "<lambda>") TT)
    (TB : TabB X.base X.mg c P) (hcode : X.env.code = .ref c) (hr : Room (k + 2) X.A) (L : LamS X.env.scope scope) (hdef : defaultsOf params X.env = ([], []))
    (hbind : ∀ (q : Str) (cl : List (Str × Addr)) (pm cv ctv : Value), bindArgs (PySem.W.kla_fn "<lambda>" q params body scope cl pm cv ctv) ⟨[], []⟩ = pure [])
    (hbody : ∀ (A : Around) (outer : List Env) (s : Shared) (H : Hp) (E : XK) (f c' : Addr), Room k (A.deeper (lamEnv X scope s.heap.objs.size f c')) → PE (lamN X A outer s H E scope f c') body (t E))
    (hdb : (x == ("__debug__" : Str)) = false := by decide) (hd : (a == ("__debug__" : Str)) = false := by decide) (hcd : (a == ("__classdict__" : Str)) = false := by decide) :
    PE X (.Call (.Name x p) [.Lambda params body scope lpos] [] pos) (tLamP P (X.env.qual ++ "<lambda>") TT t) := by
  refine ⟨fun pins s σ H Q I h => ?_⟩
  obtain ⟨ps, hP, ht, ha, h⟩ := h
  refine wpAny_Call_Name_kw (ld_glob I hg hm ?_ hdb)
  refine PySem.W.callWith_K (h₀ := X.base) I.ok.mod.kin hk ?_ (by rfl) (by rfl)
  show wpAny _ _ (spliced ((false, eval (.Lambda params body scope lpos) X.env) :: backTo pos (starEach [] X.env))) _ _ s
  refine Calls.spliced_cons (lam_make3 I TB hcode hP ht ha hdef (L.has I.ok) fun f c' pm' ctv H1 s' I1 eN hf hfn hfr hco => ?_)
  refine Calls.spliced_nil ⟨I1.kIn, ?_⟩
  have rc : codeAny (model X.prog X.w) X.A (.call (.ref g) ⟨[.ref f], []⟩) (CR C8.CX0 X.stack X.prog X.w H1 s' Q C8.E0) s' := by
    refine LamX.run_ofS (N := Ng) (ps := [a]) (us := [.ref f]) (vs := [.ref f]) lk hcg Sg hr I1.env0 (hb s' [.ref f] I1.kIn rfl) (.cons rfl .nil) rfl fun hr' => ?_
    obtain ⟨t', ht', hq'⟩ := hG f c' s' H1 Q (fun E H' Q' => t E σ H' Q') (fun W pn xe E p1 p2 tk hW => pe_actN (i := 0) I1 L hf hfn hfr (hbind _ _ _ _ _) tk hW hr' (fun A outer s H hr2 => hbody A outer s H E f c' hr2) hNg hva hd hcd) hco (h H1 eN)
    exact ⟨t', ht'.nox, hq'⟩
  refine wpAny_call (codeAny_mono rc fun r s2 hq => ?_)
  cases r with
  | error e => exact (show False from hq).elim
  | ok fl =>
    cases fl with
    | ret u => exact I1.after hq
    | next => exact False.elim hq
    | brk => exact False.elim hq
    | cont => exact False.elim hq
end
end DL
end

section
namespace DL
open PySem PySem.Spec PySem.Calls PyProof.Rows L2
section
variable {X : Cx} {W : WX}
theorem dex_tup {i : Nat} {a : Addr} {es : List Expr} {k : Nat} {pos : Pos} {ms : List (M AV)} (h : DAx X W i a es (oL ms)) : DEx X W i a (.Tuple es k pos) (mOp gTup ms) := pe_weak (fe_tup h) fun σ H Q ⟨hi, B, r, O, h⟩ => by
  refine ⟨hi, tG.of (h.ops.mono ?_)⟩
  rintro vs H1 ⟨B1, xs, z, sb, p, hg, q⟩
  unfold gTup at hg
  obtain ⟨ds, e1, e2⟩ := Option.bind_eq_some_iff.mp hg
  split at e2
  · rename_i hl
    cases e2
    have d := dataAll_of e1 p
    refine ⟨by rw [d.length, ← line_eq]; exact hl, ?_⟩
    exact alc_tup q d
  · cases e2
end
end DL
end

section
namespace DL
open PySem
/-- ("told", what me tells), or ("refused", the class's word) -/
def mTold (i P : Nat) (q : Str) (me : M RV) (L : List String) (word : String → Str) : M RV := fun r => match r[i]? with
  | some (.own _ (.tab P' q')) => if P' = P ∧ q' = q then match mFz me r with
    | some (.ok d, r1) => some (.ok (.val (.tuple [.str "told", d])), r1)
    | some (.exc x, r1) => match x.row with
      | none => if L.contains x.cls then some (.ok (.val (.tuple [.str "refused", .str (word x.cls)])), r1) else none
      | some _ => none
    | none => none else none
  | _ => none
/-- the table of a law's code object, at P, gets slot i -/
def sTab (i P : Nat) (q : Str) : S := fun r => if i < r.length then some (.nx, r.set i (.own false (.tab P q))) else none
end DL
end

section
set_option maxHeartbeats 2000000
namespace DL
open PySem PySem.Spec PySem.Calls PyProof.Rows L2
open LamX (CodeO TabS TabB LamS lamEnv)
theorem takes_len {X : Cx} {W : WX} (tk : L2N.Takes X W) : L2N.Takes X (fun cls d σ H => σ.length = X.N.length → W cls d σ H) :=
  fun u s' ⟨a, B, sI, pins, σ, H, cls, d, e, I, nb, up, sky, na, os, ag, w⟩ => tk u s' ⟨a, B, sI, pins, σ, H, cls, d, e, I, nb, up, sky, na, os, ag, w I.len⟩
/-- nothing is known of the slots -/
theorem con_non {K : PySem.W.Frag} {B H : Hp} {σ : L2.St} {n : Nat} (h : Same B H) (hl : σ.length = n) : Con K B H σ (List.replicate n .non) (fun _ => False) := by
  have no : ∀ (i : Nat) (x : Sl), (List.replicate n Sl.non)[i]? = some x → x = .non := fun i x e => by
    rw [List.getElem?_replicate] at e
    split at e
    · exact (Option.some.inj e).symm
    · cases e
  exact ⟨⟨h, fun _ z => z.elim, fun _ z => z.elim, by rw [List.length_replicate, hl], fun i b d e => (by cases no i _ e), fun i b c e => (by cases no i _ e), fun i j b c b' c' l l' F F' _ e => (by cases no i _ e)⟩, fun i j k e => (by cases no i _ e)⟩
/-- the promise by the lambda's reading -/
def TTd (K : PySem.W.Frag) (mg : Str → Option Value) (L : List String) (word : String → Str) (tl : XK → Hp → VK → Prop) (H : Hp) (Q : VK) : Prop :=
  ∀ (E : XK) (Q' : VK), (∀ cls dx H', (∃ n, n ∈ L ∧ ∃ C, mg (Str.ofString n) = some (.ref C) ∧ cls = .ref C ∧ dx = none ∧ ∃ B', Same B' H' ∧
      ∀ B'' H'' O'' v, Step B' H' (fun _ => False) B'' H'' O'' → Same B'' H'' → Dq K B'' v (.tuple [.str "refused", .str (word n)]) → Q v H'') → E cls dx H') →
    (∀ y H', (∀ p o, H' p = none → TP o → Q (.ref p) (upd H' p (.frz o (.tup [.str "told", y])))) → Q' y H') → tl E H Q'
/-- what the suite means -/
def mWord (sem : Sem) : M RV := mOp gTup [oE (mC (.str "refused")), oE (mCall sem [])]
theorem mWord_eq {sem : Sem} {w : Str} (h : sem [] = some (.ok (.val (.str w)), [])) {r : Ro} : mWord sem r = some (.ok (.val (.tuple [.str "refused", .str w])), r) := by
  unfold mWord mOp oL oL oL oE M.bind mCall oL M.bind
  simp only [mC, M.ret, M.of, looks, RV.data, Option.map]
  rw [h]
  simp [ownIx, putBack, mFin, looks2, look2, gTup, Rs.data, M.ret, dataAll, show (2 : Nat) ≤ lineD by decide]
theorem told_gives {X : Cx} {Ng : List Str} {x a fnd e xc w y : Str} {sg : Scope} {g CS fw : Addr} {fdw : FuncData} {cdg : Value} {L : List String} {word : String → Str} {semw : String → Sem} {q : Str} {k j0 j1 j2 k1 k2 : Nat}
    {p1 p2 p3 p4 p5 p6 p7 p8 p9 p10 p11 p12 p13 p14 p15 p16 p17 p18 p19 p20 p21 : Pos}
    (hNd : Ng.Nodup) (hlen : Ng.length = 3) (h0 : Ng[0]? = some a) (h1 : Ng[1]? = some fnd) (h2 : Ng[2]? = some e) (hf : sg.names.lookup fnd = some .local) (he : sg.names.lookup e = some .local)
    (hge : sg.names.lookup xc = some .globalImplicit) (hme : X.mg xc = some (.ref CS)) (hgw : sg.names.lookup w = some .globalImplicit) (hmw : X.mg w = some (.ref fw)) (hkw : PySem.W.keepIn X.K (.ref fw) = true) (hbw : Binds X.K fdw [y] [])
    (hr : Room (k + 2) X.A) (hco : sg.kind = .function)
    (hL : ∀ n ∈ L, ∀ C, X.mg (Str.ofString n) = some (.ref C) → PySem.W.exmOne X.K (.ref C) (.ref CS) = some true)
    (hW : ∀ n ∈ L, ∀ C, X.mg (Str.ofString n) = some (.ref C) → FnW X.prog X.w X.K X.mg X.base k fw fdw y C (semw n) ∧ semw n [] = some (.ok (.val (.str (word n))), []))
    (hde : (xc == ("__debug__" : Str)) = false := by decide) (hdw : (w == ("__debug__" : Str)) = false := by decide) (hdf : (fnd == ("__debug__" : Str)) = false := by decide) (hcf : (fnd == ("__classdict__" : Str)) = false := by decide)
    (hdE : (e == ("__debug__" : Str)) = false := by decide) (hcE : (e == ("__classdict__" : Str)) = false := by decide) :
    GivesN X Ng x sg g cdg [.Assign [.Name fnd p1] (.Constant .none j0 p2) p3,
      .Try [.Assign [.Name fnd p4] (.Tuple [.Constant (.str "told") j1 p5, .Call (.Name a p6) [] [] p7] k1 p8) p9]
        [.ExceptHandler (some (.Name xc p10)) (some e) [.Assign [.Name fnd p11] (.Tuple [.Constant (.str "refused") j2 p12, .Call (.Name w p13) [.Name e p14] [] p15] k2 p16) p17] p18] [] [] p19,
      .Return (some (.Name fnd p21)) p20] a q (TTd X.K X.mg L word) := by
  intro f c' s H Q tl act hc h
  -- the frame of the def
  have hN3 : ∀ {σ : L2.St}, σ.length = 3 → σ.length = Ng.length := fun z => z.trans hlen.symm
  let Z : Cx := (cxOf C8.CX0 X.prog X.w X.K X.mg X.base Ng x sg g cdg X.A X.stack s H C8.E0).nox
  have hgl : Gl Z xc := hge
  have hglw : Gl Z w := hgw
  have hrZ : Room k Z.A := (show Room (k + 1) X.A from hr.mono (Nat.le_succ _)).deeper _
  have su : ∀ n ∈ L, ∀ C, X.mg (Str.ofString n) = some (.ref C) → ∀ (a0 : Addr) (oe : Obj) (pn : List (Addr × Obj)), L2N.Zn (.ref C) none oe → (∃ vs, oe.data = .fields vs) →
      PSs (Z.suite a0 ((a0, oe) :: pn)) [.Assign [.Name fnd p11] (.Tuple [.Constant (.str "refused") j2 p12, .Call (.Name w p13) [.Name e p14] [] p15] k2 p16) p17] (tX Z (fun _ _ _ _ => False) 2 a0 (sSeq (sSet 1 (mWord (semw n))) sNx)) := fun n hn C hC a0 oe pn hz hv =>
    dxx_set (X := Z.suite a0 ((a0, oe) :: pn)) (i := 2) (j := 1) hNd h1 (.inl hf) (dex_tup (dax_cons (dex_of de_str) (dax_cons (dex_wordC (X := Z) (hW n hn C hC).1 hrZ hz hv hglw hmw hkw hbw (pe_var (i := 2) h2 (.inl he) hdE hcE) hdw) dax_nil))) (dxx_of dss_nil)
  refine ⟨_, pss_cons (ps_set (X := Z) hNd h1 (.inl hf) pe_non) (pss_cons (L2N.ps_try_as (X := Z) (i := 2) (c := .ref CS) (Wout := fun _ _ _ _ => False)
      (tb := fun W D σ H' => σ.length = 3 ∧ σ[0]? = some (some (V.ref f)) ∧ H' c' = some (CodeO c' q) ∧ tl (fun cls dx H'' => ∀ σ' : L2.St, σ'.length = 3 → W cls dx σ' H'') H' (fun y H'' => [V.str "told", y].length ≤ sizeLine ∧ ∀ p o, H'' p = none → TP o → D.nx (σ.set 1 (some (.ref p))) (upd H'' p (.frz o (.tup [.str "told", y])))))
      (ts := fun a0 cls d D σ H' => ∃ n, n ∈ L ∧ ∃ C, X.mg (Str.ofString n) = some (.ref C) ∧ cls = .ref C ∧ d = none ∧ tX Z (fun _ _ _ _ => False) 2 a0 (sSeq (sSet 1 (mWord (semw n))) sNx) D σ H')
      rfl rfl hNd h2 he ⟨hgl, hde, .inl hme⟩ takesN0 ?_ ?_) (pss_one (ps_ret (pe_var (X := Z) (i := 1) h1 (.inl hf) hdf hcf)))), ?_⟩
  · intro W pn xe tk _
    refine pss_one (ps_weak (ps_set (X := Z.tr pn xe) hNd h1 (.inl hf) (fe_tup (pa_cons pe_str (pa_cons (act (fun cls d σ H => σ.length = Ng.length → W cls d σ H) pn xe (fun cls dx H'' => ∀ σ' : L2.St, σ'.length = 3 → W cls dx σ' H'') p6 p7 (takes_len tk) (fun cls d σ' H' z hl => z σ' (hl.trans hlen))) pa_nil)))) ?_)
    rintro D σ H' ⟨hl, g0, g1, g2⟩
    exact ⟨g0, g1, g2⟩
  · intro a0 oe cls d pn hz hv
    refine ⟨fun pins s σ H D I h => ?_⟩
    obtain ⟨n, hn, C, hC, rfl, rfl, hx⟩ := h
    exact (su n hn C hC a0 oe pn hz hv).run pins s σ H D I hx
  · have hl0 : (L2.start Ng [V.ref f]).length = 3 := by
      unfold L2.start
      simp [hlen]
    refine ⟨by rw [List.length_set]; exact hl0, ?_, hc, h _ _ (fun cls dx H' hx => ?_) fun y H' hy => ⟨show (2 : Nat) ≤ sizeLine by decide, fun p o hp ht => ⟨.ref p, ?_, hy p o hp ht⟩⟩⟩
    · rw [List.getElem?_set_ne (by decide)]
      rfl
    · obtain ⟨n, hn, C, hC, rfl, rfl, B', sb, fin⟩ := hx
      intro σ' hl
      refine ⟨true, hL n hn C hC, fun _ a0 ha => ⟨n, hn, C, hC, rfl, rfl, List.getElem?_set_self (by omega), B', List.replicate 3 .non, fun _ => False, con_non sb (by rw [List.length_set]; exact hl), .nx, [.non, .frz false (.tuple [.str "refused", .str (word n)]), .non], ?_, fun B'' H'' O'' σ'' st c2 bor => ?_⟩, fun z => by cases z⟩
      · unfold sSeq sSet sEx
        rw [mWord_eq (hW n hn C hC).2]
        rfl
      · obtain ⟨v, e1, e2⟩ := c2.frz 1 false _ rfl
        exact ⟨v, by rw [List.getElem?_set_ne (by decide)]; exact e1, fin B'' H'' O'' v st c2.sub e2⟩
    · rw [List.getElem?_set_self (by rw [List.length_set]; omega)]
end DL
end

section
set_option maxHeartbeats 2000000
namespace DL
open PySem PySem.Spec PySem.Calls PyProof.Rows L2
open LamX (CodeO TabS TabB LamS lamEnv)
theorem upd_swap {H : Hp} {a b : Addr} {o u : HO} (h : a ≠ b) : upd (upd H a o) b u = upd (upd H b u) a o := by
  funext c
  unfold upd
  by_cases h1 : c = a
  · subst h1; rw [if_neg h, if_pos rfl, if_pos rfl]
  · rw [if_neg h1]
    by_cases h2 : c = b
    · simp only [if_pos h2, if_neg h1]
    · simp only [if_neg h2, if_neg h1]
/-- the table of slot i behind the making of a lambda -/
theorem Con.newT {K : PySem.W.Frag} {B H H1 : Hp} {σ : L2.St} {r : Ro} {O : Addr → Prop} {i : Nat} {b : Bool} {P : Addr} {q : Str} (c : Con K B H σ r O) (e : r[i]? = some (.own b (.tab P q))) :
    ∃ ps : Array Value, H P = some (.tbl ps) ∧ TriplesOk ps.toList ∧ (∀ (pos : Pos) (cv : Value), codeAmong pos ps.toList = some cv → ∃ c, cv = .ref c ∧ H c = some (CodeO c q)) ∧
      (NewT H P q ps H1 → ∃ B1, Con K B1 H1 σ r O ∧ Step B H O B1 H1 O) := by
  obtain ⟨l, F, h1, h2, h3⟩ := c.own i b _ e
  obtain ⟨rfl, ps, g1, rfl, g2, g3⟩ := id h2
  refine ⟨ps, g1, g2, fun pos cv z => ?_, fun z => ?_⟩
  · obtain ⟨c', e1, e2⟩ := g3 pos cv z
    exact ⟨c', e1, c.sub _ _ e2⟩
  · rcases z with rfl | ⟨more, c', n1, t1, a1, rfl⟩
    · exact ⟨B, c, .refl⟩
    · obtain ⟨c1, s1⟩ := c.layF (p := c') (o := CodeO c' q) n1
      have np : l ≠ c' := ne_of_none g1 n1
      have bl : B l = none := c.off l (h3 l (by simp))
      have hl : upd H c' (CodeO c' q) l = some (.tbl ps) := by rw [upd_ne np]; exact g1
      have ho : OwnR K B H (.tab l q) l [l] := h2
      have hown : OwnR K (upd B c' (CodeO c' q)) (upd (upd H c' (CodeO c' q)) l (.tbl (ps ++ more))) (.tab l q) l [l] := ⟨rfl, _, upd_same, rfl, t1, fun pos cv hc => by
        rcases a1 pos cv hc with hc | rfl
        · obtain ⟨c0, e1, e2⟩ := g3 pos cv hc
          exact ⟨c0, e1, s1.sB _ _ e2⟩
        · exact ⟨c', rfl, upd_same⟩⟩
      have hlive : ∀ a, upd H c' (CodeO c' q) a ≠ none → upd (upd H c' (CodeO c' q)) l (.tbl (ps ++ more)) a ≠ none := fun a ha => by
        by_cases z : a = l
        · rw [z, upd_same]; simp
        · rw [upd_ne z]; exact ha
      obtain ⟨c2, s2⟩ := c1.change (ct' := .tab l q) (F' := [l]) (H' := upd (upd H c' (CodeO c' q)) l (.tbl (ps ++ more))) e h1 (ownR_same ho s1.sB fun a ha => by
          rw [List.mem_singleton.mp ha]
          exact upd_ne np) (fun a ha => upd_ne (by simpa using ha)) hown (fun a ha => ha) hlive (fun rows z => by cases z)
      rw [show r.set i (.own b (.tab l q)) = r from List.ext_getElem? fun j => by
          by_cases hj : i = j
          · subst hj
            rw [e, List.getElem?_set_self (List.getElem?_eq_some_iff.mp e).1]
          · rw [List.getElem?_set_ne hj]] at c2
      rw [upd_swap np]
      exact ⟨_, c2, s1.trans s2⟩
section
variable {X : Cx} {W : WX}
/-- the promise of the def that tells, by the lambda's meaning -/
theorem told_reads {B H B1 H1 : Hp} {r r1 : Ro} {O : Addr → Prop} {σ : L2.St} {me : M RV} {L : List String} {word : String → Str} {oo : EO D} {Q : VK} (s1 : Step B H O B1 H1 O) (c1 : Con X.K B1 H1 σ r O) (e1 : mFz me r = some (oo, r1))
    (p : match oo with
      | .ok d => ∀ B' H' O' y, Step B H O B' H' O' → Con X.K B' H' σ r1 O' → Bor r σ r1 σ → Dq X.K B' y (.tuple [.str "told", d]) → Q y H'
      | .exc x => x.row = none ∧ x.cls ∈ L ∧ ∀ B' H' O' y, Step B H O B' H' O' → Con X.K B' H' σ r1 O' → Bor r σ r1 σ → Dq X.K B' y (.tuple [.str "refused", .str (word x.cls)]) → Q y H') :
    TTd X.K X.mg L word (fun E H' Q' => tG (Cx.g X) (fun c d _ H => E c d H) me (rV (Cx.g X)) σ H' Q') H1 Q := by
  intro E Q' hE hQ
  refine tG.of (At.froz (show At (Cx.g X) (fun c d _ H => E c d H) (mFz me) (rD (Cx.g X)) B1 r O σ H1 Q' from ⟨c1, oo, r1, e1, ?_⟩))
  cases oo with
  | ok d =>
    intro B' H' O' y s2 c2 b2 dq
    refine hQ y H' fun pa ob hp ht => ?_
    obtain ⟨c3, s3⟩ := c2.layF (p := pa) (o := .frz ob (.tup [.str "told", y])) hp
    exact p _ _ _ (.ref pa) (s1.trans (s2.trans s3)) c3 b2 (.tup (tupAt_new ht) (.cons (.str _) (.cons (dp_same s3.sB dq) .nil)))
  | exc x =>
    obtain ⟨p1, p2, p⟩ := p
    intro B' H' O' cl dx s2 c2 b2 xn
    obtain ⟨C, hC, rfl, hx⟩ := xn
    rw [p1] at hx
    have hx : dx = none := hx
    subst hx
    refine hE _ _ _ ⟨x.cls, p2, C, hC, rfl, rfl, B', c2.sub, fun B'' H'' O'' v st sb dq => ?_⟩
    have st2 : Step B' H' O' B'' H'' O' := ⟨st.sB, fun a o h _ => st.keep a o h (fun z => z), st.live, fun a h _ hb => st.nB a h (fun z => z) hb, fun a h => .inl h⟩
    refine p B'' H'' O' v (s1.trans (s2.trans st2)) (c2.mono st.sB sb (fun a h => ?_) fun a h => st.nB a (c2.liv a h) (fun z => z) (c2.off a h)) b2 dq
    cases q : H' a with
    | none => exact absurd q (c2.liv a h)
    | some o => rw [st.keep a o q (fun z => z)]
theorem de_told {x a : Str} {g c P : Addr} {i k : Nat} {pg : Arguments} {bg : List Stmt} {sg : Scope} {dV kV doc pm cdv ct oc : Value} {an od : Option Addr} {osl : Array (Option Value)} {Ng : List Str} {L : List String} {word : String → Str} {me : M RV}
    {params : Arguments} {body : Expr} {scope : Scope} {p lpos pos : Pos} (hg : Gl X x) (hm : X.mg x = some (.ref g)) (hk : PySem.W.keepIn X.K (.ref g) = true)
    (lk : X.K.lookup g = some ⟨oc, od, .func (PySem.W.fnOf x x pg bg sg dV kV doc pm an cdv ct), osl⟩) (hcg : PySem.W.codeIn X.K cdv x = true) (hb : L2.Binds X.K (PySem.W.fnOf x x pg bg sg dV kV doc pm an cdv ct) [a] []) (Sg : FnScope Ng [a] sg) (hNg : Ng[0]? = some a) (hva : Vis sg a)
    (hG : GivesN X Ng x sg g cdv bg a (X.env.qual ++ "<lambda>") (TTd X.K X.mg L word))
    (TB : TabB X.base X.mg c P) (hcode : X.env.code = .ref c) (hr : Room (k + 2) X.A) (LS : LamS X.env.scope scope) (hdef : defaultsOf params X.env = ([], []))
    (hbind : ∀ (q : Str) (cl : List (Str × Addr)) (pm cv ctv : Value), bindArgs (PySem.W.kla_fn "<lambda>" q params body scope cl pm cv ctv) ⟨[], []⟩ = pure [])
    (hbody : ∀ (A : Around) (outer : List Env) (s : Shared) (H : Hp) (E : XK) (f c' : Addr), Room k (A.deeper (lamEnv X scope s.heap.objs.size f c')) → L2N.Takes (lamN X A outer s H E scope f c') (fun c d _ H => E c d H) →
      DE (lamN X A outer s H E scope f c') (fun c d _ H => E c d H) body me)
    (hdb : (x == ("__debug__" : Str)) = false := by decide) (hd : (a == ("__debug__" : Str)) = false := by decide) (hcd : (a == ("__classdict__" : Str)) = false := by decide) :
    DE X W (.Call (.Name x p) [.Lambda params body scope lpos] [] pos) (mTold i P (X.env.qual ++ "<lambda>") me L word) :=
  pe_weak (pe_lamN (t := fun E => tG (Cx.g X) (fun c d _ H => E c d H) me (rV (Cx.g X))) hg hm hk lk hcg hb Sg hNg hva hG TB hcode hr LS hdef hbind (fun A outer s H E f c' hr2 => hbody A outer s H E f c' hr2 (L2N.takes_of rfl rfl rfl rfl)) hdb hd hcd) fun σ H Q ⟨B, r, O, c0, o, r', e, p⟩ => by
    unfold mTold at e
    split at e
    · rename_i b P' q' hsl
      split at e
      · rename_i hq
        obtain ⟨rfl, rfl⟩ := hq
        have go : ∀ H1, ∃ ps : Array Value, _ := fun H1 => c0.newT (H1 := H1) hsl
        obtain ⟨ps, g1, g2, g3, _⟩ := go H
        refine ⟨ps, g1, g2, g3, fun H1 nt => ?_⟩
        obtain ⟨ps2, f1, f2, f3, f4⟩ := go H1
        rw [g1] at f1
        cases f1
        obtain ⟨B1, c1, s1⟩ := f4 nt
        cases q : mFz me r with
        | none => rw [q] at e; cases e
        | some z =>
          obtain ⟨oo, r1⟩ := z
          rw [q] at e
          refine told_reads s1 c1 q ?_
          cases oo with
          | ok d =>
            cases e
            exact fun B' H' O' y st ct bt dq => p B' H' O' y st ct bt dq
          | exc x0 =>
            simp only at e
            split at e
            · rename_i hrow
              split at e
              · rename_i hL
                cases e
                exact ⟨hrow, by simpa using hL, fun B' H' O' y st ct bt dq => p B' H' O' y st ct bt dq⟩
              · cases e
            · cases e
      · cases e
    · cases e
end
end DL
end

section
namespace DL
open PySem PySem.Spec PySem.Calls PyProof.Rows L2
section
variable {X : Cx} {W : WX} {i : Nat} {ad : Addr}
/-- a test by what is asked of the exception -/
def DBx (X : Cx) (W : WX) (i : Nat) (ad : Addr) (e : Expr) (m : M Bool) : Prop := PT X e (fun σ H Q => σ[i]? = some (some (V.ref ad)) ∧ tG (Cx.g X) W m rB σ H Q)
def DWx (X : Cx) (W : WX) (i : Nat) (ad : Addr) (e : Expr) (m : M Bool) : Prop := PW X e (fun σ H Q => σ[i]? = some (some (V.ref ad)) ∧ tG (Cx.g X) W m rB σ H Q)
theorem dbx_of {e : Expr} {m : M Bool} (h : DB X W e m) : DBx X W i ad e m := pt_weak h fun σ H Q h => h.2
theorem dbx_val {e : Expr} {m : M RV} (h : DEx X W i ad e m) (he : ∀ whole, isTrue e X.env whole = (do let v ← whole; standAt e.pos; holding [v] (truthy v)) := by intro _; rfl) : DBx X W i ad e (mTst m) := pt_weak (pt_val h he) fun σ H Q ⟨hi, B, r, O, h⟩ => by
  refine ⟨hi, tG.of ((h.bind later_rB (R := rV (Cx.g X))).mono ?_)⟩
  rintro y H1 ⟨v, B1, r1, O1, s1, x1, h1⟩
  exact h1.ofBool x1
theorem dwx_and1 {a : Expr} {pos : Pos} {m : M Bool} (h : DBx X W i ad a m) : DWx X W i ad (.BoolOp .And [a] pos) m := pw_and1 h
theorem dwx_and {a b : Expr} {es : List Expr} {pos : Pos} {m n : M Bool} (h : DBx X W i ad a m) (t : DWx X W i ad (.BoolOp .And (b :: es) pos) n) : DWx X W i ad (.BoolOp .And (a :: b :: es) pos) (mAnd m n) := pw_weak (pw_and h t) fun σ H Q ⟨hi, B, r, O, h⟩ => by
  refine ⟨hi, tG.of ((h.bind later_rB (R := rB)).mono ?_)⟩
  rintro y H1 ⟨v, B1, r1, O1, s1, x1, h1⟩
  cases x1
  cases y with
  | true => exact iteT ⟨hi, tG.of h1⟩
  | false => exact iteF (h1.ret rfl)
theorem dbx_w {e : Expr} {m : M Bool} (h : DWx X W i ad e m) : DBx X W i ad e m := PW.pt h
/-- if ..: return .. -/
theorem dxx_ifRet {c e : Expr} {pos pos2 : Pos} {sts : List Stmt} {t : M Bool} {me : M RV} {m2 : S} (hc : DBx X W i ad c t) (he : DE X W e me) (ht : PSs X sts (tX X W i ad m2)) : PSs X (.If c [.Return (some e) pos2] [] pos :: sts) (tX X W i ad (sSeq (sIf t (sRet me) sNx) m2)) :=
  pss_weak (pss_cons (ps_if hc (dss_one (ds_ret he)) pss_nil) ht) fun D σ H ⟨hi, B, r, O, h⟩ => by
    refine ⟨hi, tG.of (h.seq.ex.mono ?_)⟩
    rintro y H1 ⟨v, B1, r1, O1, s1, b1, x1, c1, o, r', e, p⟩
    cases x1
    cases y with
    | true =>
      refine iteT (tS.of (AtS.after s1 c1 b1 e ?_))
      have e : sRet me r1 = some (o, r') := e
      unfold sRet sEx at e
      cases q : me r1 with
      | none => rw [q] at e; cases e
      | some z =>
        obtain ⟨o1, r2⟩ := z
        rw [q] at e
        cases o1 with
        | ok a => cases e; exact p
        | exc x => cases e; exact p
    | false =>
      cases e
      exact iteF ⟨hi, p B1 H1 O1 σ s1 c1 b1⟩
theorem ps_setLcK {j : Nat} {y : Str} {py : Pos} {elt tg iter : Expr} {ifs : List Expr} {scope : Scope} {own : List (Str × Nat)} {pos spos : Pos} {wi : TI} {g : TG} {tt : TT} {te : TE} (hc : L2H.HotC X) (hN : X.N.Nodup) (hy : X.N[j]? = some y) (hyl : X.env.scope.names.lookup y = some .local)
    (hsw : swapsWith (.ListComp elt [⟨tg, iter, ifs, 0⟩] scope pos) (some (.Name y py)) spos.line X.env = pure true) (hi : PIK X tg iter wi) (ok : BlkOk X.N X.env.scope scope own)
    (hg : ∀ (s : Shared) (H : Hp) (C : Addr) (cl : List (Str × Addr)) (fp : List Addr), HotIn X s H fp → PG (X.blk s H scope (compEnvC scope cl C X.env) fp) tg g) (ht : ∀ (s : Shared) (H : Hp) (C : Addr) (cl : List (Str × Addr)) (fp : List Addr), PTs (X.blk s H scope (compEnvC scope cl C X.env) fp) ifs tt)
    (he : ∀ (s : Shared) (H : Hp) (C : Addr) (cl : List (Str × Addr)) (fp : List Addr), PE (X.blk s H scope (compEnvC scope cl C X.env) fp) elt te) (hs : ∀ x, foldedSetIterable iter X.env x = pure x := by intro _; rfl) :
    PS X (.Assign [.Name y py] (.ListComp elt [⟨tg, iter, ifs, 0⟩] scope pos) spos) (tAsg (tLc wi g tt te (own.map (·.2))) (gName j)) := by
  refine ⟨fun pins s σ H D I h => ?_⟩
  have h : tLc wi g tt te (own.map (·.2)) σ H (fun x H1 => gName j x σ H1 D.nx) := h
  rw [exec_Assign_Name_used _ _ _ _ hsw]
  refine wpAny_bind (wpAny_standAt (wpAny_bind ?_))
  show wpAny _ X.A (do let _ ← comprehension (.ListComp elt [⟨tg, iter, ifs, 0⟩] scope pos) scope X.env (firstIterPos [⟨tg, iter, ifs, 0⟩] pos) (newList []) false (eval iter X.env) (some (assign (.Name y py) X.env))) _ _ s
  refine wpAny_bind (thn (lc_coreK (Qf := fun _ s' => SP X pins D .next s') hc hN I hi ok hg ht he hs h fun L C s' m H' I' q hn f => ?_) fun _ s' hq => wpAny_pure (wpAny_pure hq))
  show wpAny _ _ (assign (.Name y py) X.env (.ref L)) _ _ _
  refine wpAny_assign_Name (store_ok2 (v := V.ref L) I' hN hy (.inl hyl) rfl (fun s2 I2 ⟨a, sb, ha⟩ => ?_) (.inr hyl))
  obtain ⟨f0, f1, f2, f3, f4, f5⟩ := f
  refine ⟨m, hn.sameBut sb (ha.elim (fun z => by rw [z]; exact f1) fun z => fun e => f4 y a z e.symm), fun h3 sb3 => ?_⟩
  exact ⟨_, H', I2.turned (t' := s2.toks) (fun b o hb e => (sb3.2 b hb).trans e) f0 f1 f3 f4 f5, q⟩
theorem dxx_setLcK {lo : Bool} {j : Nat} {y : Str} {py : Pos} {elt tg iter : Expr} {ifs : List Expr} {scope : Scope} {own : List (Str × Nat)} {pos spos : Pos} {mi : M (List D)} {ix : List Nat} {set : D → S} {t : M Bool} {me : M RV} {sts : List Stmt} {m2 : S} (hc : L2H.HotC X) (hN : X.N.Nodup) (hy : X.N[j]? = some y) (hyl : X.env.scope.names.lookup y = some .local)
    (hsw : swapsWith (.ListComp elt [⟨tg, iter, ifs, 0⟩] scope pos) (some (.Name y py)) spos.line X.env = pure true) (hi : DIK X W lo tg iter mi) (ok : BlkOk X.N X.env.scope scope own)
    (hg : ∀ (s : Shared) (H : Hp) (C : Addr) (cl : List (Str × Addr)) (fp : List Addr), HotIn X s H fp → DG (X.blk s H scope (compEnvC scope cl C X.env) fp) lo tg ix set) (ht : ∀ (s : Shared) (H : Hp) (C : Addr) (cl : List (Str × Addr)) (fp : List Addr), DTs (X.blk s H scope (compEnvC scope cl C X.env) fp) W0 ifs t)
    (he : ∀ (s : Shared) (H : Hp) (C : Addr) (cl : List (Str × Addr)) (fp : List Addr), DE (X.blk s H scope (compEnvC scope cl C X.env) fp) W0 elt me) (hix : ∀ j ∈ ix, j ∈ own.map (·.2)) (hrest : PSs X sts (tX X W i ad m2)) (hne : j ≠ i := by decide) (hs : ∀ x, foldedSetIterable iter X.env x = pure x := by intro _; rfl) :
    PSs X (.Assign [.Name y py] (.ListComp elt [⟨tg, iter, ifs, 0⟩] scope pos) spos :: sts) (tX X W i ad (sSeq (sSet j (mLc (own.map (·.2)) mi set t me)) m2)) := by
  have P : PS X (.Assign [.Name y py] (.ListComp elt [⟨tg, iter, ifs, 0⟩] scope pos) spos) (tAsg (tG (Cx.g X) W (mLc (own.map (·.2)) mi set t me) (rV (Cx.g X))) (gName j)) :=
    ps_weak (ps_setLcK (g := gD X.K lo ix set) (tt := tG (Cx.g X) W0 t rB) (te := tG (Cx.g X) W0 me (rV (Cx.g X))) hc hN hy hyl hsw hi ok hg ht he hs) fun D σ H h => lc_read hix h
  refine pss_weak (pss_cons P hrest) fun D σ H ⟨hi, B, r, O, h⟩ => tG.of (h.seq.ex.mono ?_)
  rintro y H1 ⟨v, B1, r1, O1, s1, b1, x1, c1, o, r', e, p⟩
  obtain ⟨rfl, O2, c2, b2, h2⟩ := put_ok c1 e x1 s1.live
  exact ⟨by rw [List.getElem?_set_ne hne]; exact hi, p B1 H1 O2 _ (put_step s1 h2) c2 (b1.trans b2)⟩
end
theorem hot_word {CX : CXT} {P : Program} {w : World} {K : PySem.W.Frag} {mg : Str → Option Value} {base : Heap} {N : List Str} {qual : Str} {scope : Scope} {f : Addr} {cd : Value} {A : Around} {outer : List Env} {s : Shared} {H : Hp} {E : XK} {p : Addr × Obj} (hot : L2H.Hot1 A p) :
    L2H.HotC (L2H.cxH CX P w K mg base N qual scope f cd A outer s H E p) := ⟨p, hot, List.mem_cons_self⟩
theorem units_H {k : Nat} {A : Around} (r : L2H.RoomH k A) : A.units + 64 < cLine := by have := r.un; omega
end DL
end

section
set_option maxHeartbeats 2000000
namespace DL
open PySem PySem.Spec PySem.Calls PyProof.Rows L2
section
variable {prog : Program} {w : World} {A : Around} {E : Value → Shared → Prop} {s : Shared}
theorem next_tuple_end_hot {it t x1 : Addr} {i : Nat} {items} {Q : Option Value → Shared → Prop} (hot : HotX.HotAt A x1 s.heap) (hit : IsTupIter s.heap it t i) (ht : IsTup s.heap t items) (hx : items[i]? = none)
    (hQ : ∀ h', Heap.ExtBut it s.heap h' → Q none { s with heap := h' }) : wpAny (model prog w) A (pyNext (.ref it)) Q E s := by
  obtain ⟨o, ho, hc, hd⟩ := id hit
  obtain ⟨ol, hol, _, nl, hdl⟩ := ht
  obtain ⟨hh, o1, vs1, h1, d1, c1⟩ := hot
  have n1 : it ≠ x1 := fun z => by
    rw [← z, ho] at h1
    cases h1
    rw [hd] at d1
    cases d1
    simp at c1
  unfold pyNext
  refine wpAny_bind (wpAny_attempt (wpAny_callSpecial?_slot (name := Str.ofString "__next__") hit.typeIs slot_tupleiter_next
    (wpAny_call_entry slot_tupleiter_next hit.typeIs entry_tupleiter_next ?_ (args_tupleiter_next _))))
  show wpAny _ _ (field (.ref it) 0 >>= _) _ _ s
  refine wpAny_bind (wpAny_field ho hd (x := .ref t) rfl ?_)
  show wpAny _ _ (if (Value.ref t == Value.none) = true then _ else _) _ _ s
  rw [if_neg (show ¬ ((Value.ref t == Value.none) = true) from Bool.false_ne_true)]
  show wpAny _ _ (field (.ref it) 1 >>= _) _ _ s
  refine wpAny_bind (wpAny_field ho hd (x := .int i 0) rfl ?_)
  show wpAny _ _ (seqItems? (.ref t) >>= _) _ _ s
  refine wpAny_bind (wpAny_seqItems hol hdl ?_)
  simp only [Int.toNat_natCast, hx]
  refine wpAny_bind (wpAny_rule (wpAny_bind (wpAny_setField ho hd (by simp) ?_)))
  show wpAny _ _ (newExc (.type "StopIteration") [] >>= _) _ _ _
  refine wpAny_bind ?_
  simp only [newExc, newTuple]
  refine wpAny_bind (wpAny_newObj_type ?_ (by size_fits))
  refine wpAny_bind (m := firstArgMember _ _) (wpAny_of_eq (a := Value.none) (by first | rfl | (simp only [firstArgMember]; rfl)) ?_)
  refine wpAny_newObj_type ?_ (by size_fits)
  have g1 : ∀ f, (s.heap.update it f).get? x1 = some o1 := fun f => (Heap.get?_update_other _ _ n1).trans h1
  refine HotX.raiseNew_hot ⟨hh, o1, vs1, Heap.get?_push_of_some _ (Heap.get?_push_of_some _ (g1 _)), d1, c1⟩ (Nat.ne_of_lt (Heap.lt_size (Heap.get?_push_of_some _ (g1 _)))) (Heap.get?_push_size _ rfl) rfl (by first | (simp; done) | (simp; omega) | (simp only [Array.size_append]; simp; omega)) ?_
  refine wpAny_bind (wpAny_isInstance (T := "StopIteration") (b := true) ⟨_, Heap.get?_update_self _ (Heap.get?_push_size _ rfl) rfl, rfl⟩ isSubtype_stop ?_)
  refine wpAny_pure (hQ _ ?_)
  intro b u hb e
  have e0 : ∀ f, (s.heap.update it f).get? b = some u := fun f => (Heap.get?_update_other _ _ (Ne.symm hb)).trans e
  rw [Heap.get?_update_other _ _ (Nat.ne_of_gt (Heap.lt_size (Heap.get?_push_of_some _ (e0 _))))]
  exact Heap.get?_push_of_some _ (Heap.get?_push_of_some _ (e0 _))
theorem hot_ext {a x1 : Addr} {h h' : Heap} (hot : HotX.HotAt A x1 h) (hb : ∀ b o, b ≠ a → h.get? b = some o → h'.get? b = some o) (ha : x1 ≠ a) : HotX.HotAt A x1 h' := by
  obtain ⟨hh, o1, vs1, h1, d1, c1⟩ := hot
  exact ⟨hh, o1, vs1, hb _ _ ha h1, d1, c1⟩
theorem assign_tuple_hot {env : Env} {elts : List Expr} {k : Nat} {pos : Pos} {t x1 : Addr} {items : Array Value} {Q : Unit → Shared → Prop} (hot : HotX.HotAt A x1 s.heap) (ht : IsTup s.heap t items)
    (hn : (assignEach elts env).length = items.size) (hstar : (assignEach elts env).findIdx? (·.1) = none)
    (h : ∀ h', Heap.ExtBut s.heap.objs.size s.heap h' → wpAny (model prog w) A (assignInOrder ((assignEach elts env).map (·.2)) items.toList) Q E { s with heap := h' }) :
    wpAny (model prog w) A (assign (.Tuple elts k pos) env (.ref t)) Q E s := by
  have hlt : t ≠ s.heap.objs.size := by obtain ⟨o, ho, _⟩ := ht; exact Nat.ne_of_lt (Heap.lt_size ho)
  have hx : x1 ≠ s.heap.objs.size := by obtain ⟨_, o1, vs1, h1, _⟩ := id hot; exact Nat.ne_of_lt (Heap.lt_size h1)
  rw [assign_Tuple]
  refine wpAny_bind (wpAny_standAt ?_)
  unfold unpack
  rw [hn, hstar]
  refine wpAny_bind (wpAny_holding ?_)
  unfold unpackItems
  refine wpAny_bind ?_
  unfold notIterableAtAll
  refine wpAny_bind (wpAny_specialOf ht.typeIs slot_tuple_iter.lookup ?_)
  refine wpAny_pure ?_
  simp only [Bool.false_eq_true, if_false]
  refine wpAny_bind (wpAny_holding (iter_tuple ht ?_))
  refine wpAny_bind (wpAny_holding (draw_tuple hlt items.size 0 _ _ ⟨_, Heap.get?_push_size _ rfl, rfl, rfl⟩ (ht.push _) (by omega) fun h₁ hit₁ hs₁ => ?_))
  rw [show List.take items.size (List.drop 0 items.toList) = items.toList by rw [List.drop_zero]; exact List.take_of_length_le (by simp), if_neg (by simp)]
  have hot1 : HotX.HotAt A x1 h₁ := hot_ext hot (fun b o hb e => hs₁.extBut b o hb (Heap.get?_push_of_some _ e)) hx
  refine wpAny_bind (wpAny_holding (next_tuple_end_hot (s := { s with heap := h₁ }) hot1 hit₁ ((ht.push _).extBut hs₁.extBut hlt) (by simp) fun h₂ he₂ => ?_))
  simp only [Option.isSome_none, Bool.false_eq_true, if_false]
  exact wpAny_pure (h h₂ fun b o hb e => he₂ b o hb (hs₁.extBut b o hb (Heap.get?_push_of_some _ e)))
end
section
variable {X : Cx} {s0 : Shared} {H0 : Hp} {scope : Scope} {ce : Env} {fp : List Addr}
theorem pg_tupH {es : List Expr} {k : Nat} {pos : Pos} {t : TGs} {n : Nat} (hin : HotIn X s0 H0 fp) (h : PGs (X.blk s0 H0 scope ce fp) es t)
    (hn : (assignEach es (X.blk s0 H0 scope ce fp).env).length = n := by rfl) (hst : (assignEach es (X.blk s0 H0 scope ce fp).env).findIdx? (·.1) = none := by rfl) : PG (X.blk s0 H0 scope ce fp) (.Tuple es k pos) (L2.gTup X.K n t) := by
  refine ⟨fun pins s σ H v u Q I r hw => ?_⟩
  obtain ⟨a, xs, e1, hq, hl, hw⟩ := hw
  obtain ⟨x1, hot⟩ := hin.at I
  subst e1
  cases r
  obtain ⟨its, rv, ht, hz⟩ := I.tuple hq
  refine assign_tuple_hot hot ht (by simp [hn, ← hl, rv.length]) hst fun h' hx => ?_
  exact h.run pins _ σ H xs _ Q (I.kept (t' := s.toks) fun b o e => hx b o (Nat.ne_of_lt (Heap.lt_size e)) e) (by simpa using rv) hw
theorem dg_tupH {lo : Bool} {es : List Expr} {k : Nat} {pos : Pos} {ix : List Nat} {fs : List (D → S)} (hin : HotIn X s0 H0 fp) (h : DGs (X.blk s0 H0 scope ce fp) es ix fs)
    (hn : (assignEach es (X.blk s0 H0 scope ce fp).env).length = fs.length := by rfl) (hst : (assignEach es (X.blk s0 H0 scope ce fp).env).findIdx? (·.1) = none := by rfl) : DG (X.blk s0 H0 scope ce fp) lo (.Tuple es k pos) ix (setT fs) := pg_weak (pg_tupH hin h hn hst) fun v σ H Q ⟨B, r, O, d, r', c, hd, e, q⟩ => by
  cases d with
  | tuple ds =>
    obtain ⟨a, xs, rfl, hs, ha⟩ : ∃ a xs, v = .ref a ∧ SqT X.K B a xs ∧ DqAll X.K B xs ds := by
      rcases hd with hd | ⟨_, a, xs, es, rfl, e, h1, h2⟩
      · obtain ⟨a, xs, rfl, h1, h2⟩ := dp_tuple hd
        exact ⟨a, xs, rfl, h1.sq, h2⟩
      · cases e
        exact ⟨a, xs, rfl, h1, h2⟩
    have e' : sets fs ds r = some (.nx, r') := e
    exact ⟨a, xs, rfl, sqt_same c.sub hs, by rw [ha.length]; exact sets_len e' rfl, B, r, O, ds, r', c, ha, e', q⟩
  | _ => cases e
end
end DL
end

section
namespace DL
open PySem
/-- an expression's end -/
def endP {α : Type} (X : Exn → Ro → Prop) (Q : α → Ro → Prop) : EO α → Ro → Prop
  | .ok a, r => Q a r
  | .exc x, r => X x r
@[simp, simp ↓] theorem endP_ok {α : Type} {X : Exn → Ro → Prop} {Q : α → Ro → Prop} {a : α} {r : Ro} : endP X Q (.ok a) r = Q a r := rfl
@[simp, simp ↓] theorem endP_exc {α : Type} {X : Exn → Ro → Prop} {Q : α → Ro → Prop} {x : Exn} {r : Ro} : endP X Q (.exc x) r = X x r := rfl
theorem endP.mono {α : Type} {X X' : Exn → Ro → Prop} {Q Q' : α → Ro → Prop} {o : EO α} {r : Ro} (h : endP X Q o r) (i : ∀ a r, Q a r → Q' a r) (j : ∀ x r, X x r → X' x r) : endP X' Q' o r := by
  cases o with
  | ok a => exact i _ _ h
  | exc x => exact j _ _ h
/-- a mark: what it speaks of is not looked into -/
inductive Tok {β : Type} (Q : β) : Type where
  | tok
/-- the option holds a value, of which Q holds -/
def optP {α : Type} (o : Option α) (Q : α → Prop) (t : Tok Q := .tok) : Prop := ∃ v, o = some v ∧ Q v
@[simp, simp ↓] theorem optP_some {α : Type} {v : α} {Q : α → Prop} : optP (some v) Q ↔ Q v := by simp [optP]
@[simp, simp ↓] theorem optP_none {α : Type} {Q : α → Prop} : optP none Q ↔ False := by simp [optP]
@[simp, simp ↓] theorem optP_map {α β : Type} {o : Option α} {f : α → β} {Q : β → Prop} : optP (o.map f) Q ↔ optP o fun a => Q (f a) := by cases o <;> simp
@[simp, simp ↓] theorem optP_bind {α β : Type} {o : Option α} {f : α → Option β} {Q : β → Prop} : optP (o.bind f) Q ↔ optP o fun a => optP (f a) Q := by cases o <;> simp
@[simp, simp ↓] theorem optP_ite {α : Type} {c : Prop} [Decidable c] {x : α} {Q : α → Prop} : optP (if c then some x else none) Q ↔ c ∧ Q x := by by_cases h : c <;> simp [h]
/-- the slots changed -/
def setP (r : Ro) (i : Nat) (x : Sl) (k : Ro → Prop) : Prop := k (r.set i x)
@[simp, simp ↓] theorem setP_0 {a x : Sl} {r : Ro} {k : Ro → Prop} : setP (a :: r) 0 x k ↔ k (x :: r) := Iff.rfl
@[simp, simp ↓] theorem setP_s {a x : Sl} {r : Ro} {n : Nat} {k : Ro → Prop} : setP (a :: r) (n + 1) x k ↔ setP r n x fun r' => k (a :: r') := Iff.rfl
/-- a fork -/
def ifP (x : Bool) (A B : Prop) (t : Tok A := .tok) (u : Tok B := .tok) : Prop := (x = true → A) ∧ (x = false → B)
@[simp, simp ↓] theorem ifP_true {A B : Prop} : ifP true A B ↔ A := by simp [ifP]
@[simp, simp ↓] theorem ifP_false {A B : Prop} : ifP false A B ↔ B := by simp [ifP]
@[simp, simp ↓] theorem ifP_not {x : Bool} {A B : Prop} : ifP (!x) A B ↔ ifP x B A := by cases x <;> simp
@[simp] theorem ifP_dec {c : Prop} [Decidable c] {A B : Prop} : ifP (decide c) A B ↔ (c → A) ∧ (¬ c → B) := by by_cases h : c <;> simp [h]
/-- the expression answers a value, of which Q holds, or raises what X says -/
def E {α : Type} (X : Exn → Ro → Prop) (m : M α) (r : Ro) (Q : α → Ro → Prop) : Prop := ∃ o r', m r = some (o, r') ∧ endP X Q o r'
/-- the statement ends so that Q holds -/
def W (s : S) (r : Ro) (Q : SO → Ro → Prop) : Prop := ∃ o r', s r = some (o, r') ∧ Q o r'
/-- the def answers so that Q holds -/
def Oks (f : Sem) (xs : List Rs) (Q : EO RV → List Rs → Prop) : Prop := ∃ o ys, f xs = some (o, ys) ∧ Q o ys
theorem E.mono {α : Type} {X : Exn → Ro → Prop} {m : M α} {r : Ro} {Q Q' : α → Ro → Prop} (h : E X m r Q) (i : ∀ a r, Q a r → Q' a r) : E X m r Q' := by
  obtain ⟨a, r', e, q⟩ := h
  exact ⟨a, r', e, q.mono i fun _ _ h => h⟩
theorem W.mono {s : S} {r : Ro} {Q Q' : SO → Ro → Prop} (h : W s r Q) (i : ∀ o r, Q o r → Q' o r) : W s r Q' := by
  obtain ⟨a, r', e, q⟩ := h
  exact ⟨a, r', e, i _ _ q⟩
theorem Oks.mono {f : Sem} {xs : List Rs} {Q Q' : EO RV → List Rs → Prop} (h : Oks f xs Q) (i : ∀ v ys, Q v ys → Q' v ys) : Oks f xs Q' := by
  obtain ⟨a, r', e, q⟩ := h
  exact ⟨a, r', e, i _ _ q⟩
theorem E_some {α : Type} {X : Exn → Ro → Prop} {m : M α} {r r' : Ro} {a : α} {Q : α → Ro → Prop} (h : m r = some (.ok a, r')) : E X m r Q ↔ Q a r' :=
  ⟨fun ⟨b, r2, e, q⟩ => (by rw [h] at e; cases e; exact q), fun q => ⟨.ok a, r', h, q⟩⟩
theorem E_exc {α : Type} {X : Exn → Ro → Prop} {m : M α} {r r' : Ro} {x : Exn} {Q : α → Ro → Prop} (h : m r = some (.exc x, r')) : E X m r Q ↔ X x r' :=
  ⟨fun ⟨b, r2, e, q⟩ => (by rw [h] at e; cases e; exact q), fun q => ⟨.exc x, r', h, q⟩⟩
theorem E_no {α : Type} {X : Exn → Ro → Prop} {m : M α} {r : Ro} {Q : α → Ro → Prop} (h : m r = none) : E X m r Q ↔ False :=
  ⟨fun ⟨b, r2, e, q⟩ => (by rw [h] at e; cases e), fun q => q.elim⟩
section
variable {α β : Type} {X : Exn → Ro → Prop} {r : Ro}
@[simp, simp ↓] theorem E_bind {m : M α} {f : α → M β} {Q : β → Ro → Prop} : E X (m.bind f) r Q ↔ E X m r fun a r' => E X (f a) r' Q := by
  cases hm : m r with
  | none => rw [E_no hm, E_no (by simp only [M.bind, hm])]
  | some p =>
    obtain ⟨o, r1⟩ := p
    cases o with
    | ok a =>
      rw [E_some hm]
      unfold E M.bind
      rw [hm]
    | exc x => rw [E_exc hm, E_exc (by simp only [M.bind, hm]; rfl)]
@[simp, simp ↓] theorem E_ret {a : α} {Q : α → Ro → Prop} : E X (M.ret a) r Q ↔ Q a r := E_some rfl
@[simp, simp ↓] theorem E_of {o : Option α} {Q : α → Ro → Prop} : E X (M.of o) r Q ↔ optP o fun a => Q a r := by
  cases o with
  | none => rw [E_no rfl]; simp
  | some a => rw [E_some (m := M.of (some a)) (r := r) (a := a) (r' := r) rfl]; simp
@[simp, simp ↓] theorem E_mC {d : D} {Q : RV → Ro → Prop} : E X (mC d) r Q ↔ Q (.val d) r := E_ret
@[simp, simp ↓] theorem E_mYes {Q : Bool → Ro → Prop} : E X mYes r Q ↔ Q true r := E_ret
def rdP (i : Nat) (r : Ro) (Q : RV → Ro → Prop) (x : Option Sl) (t : Tok Q := .tok) : Prop := match x with
  | some (.frz _ d) => Q (.val d) r
  | some (.own b (.lst ds)) => setP r i (.frz b (.list ds)) (Q (.val (.list ds)))
  | some (.own b (.ll rows)) => setP r i (.frz b (.list (rows.map .list))) (Q (.val (.list (rows.map .list))))
  | _ => False
@[simp, simp ↓] theorem rdP_frz {i : Nat} {b : Bool} {d : D} {Q : RV → Ro → Prop} : rdP i r Q (some (.frz b d)) = Q (.val d) r := rfl
@[simp, simp ↓] theorem rdP_lst {i : Nat} {b : Bool} {ds : List D} {Q : RV → Ro → Prop} : rdP i r Q (some (.own b (.lst ds))) = setP r i (.frz b (.list ds)) (Q (.val (.list ds))) := rfl
@[simp, simp ↓] theorem rdP_ll {i : Nat} {b : Bool} {rows : List (List D)} {Q : RV → Ro → Prop} : rdP i r Q (some (.own b (.ll rows))) = setP r i (.frz b (.list (rows.map .list))) (Q (.val (.list (rows.map .list)))) := rfl
@[simp, simp ↓] theorem E_mRd {i : Nat} {Q : RV → Ro → Prop} : E X (mRd i) r Q ↔ rdP i r Q (r[i]?) := by
  cases h : r[i]? with
  | none => rw [E_no (by simp only [mRd, h])]; simp [rdP]
  | some x => cases x with
    | non => rw [E_no (by simp only [mRd, h])]; simp [rdP]
    | frz b d => rw [E_some (by simp only [mRd, h]; rfl)]; simp [rdP]
    | own b c => cases c with
      | lst ds => rw [E_some (by simp only [mRd, h]; rfl)]; simp [rdP, setP]
      | ll ds => rw [E_some (by simp only [mRd, h]; rfl)]; simp [rdP, setP]
      | dK ds => rw [E_no (by simp only [mRd, h])]; simp [rdP]
      | dT ds => rw [E_no (by simp only [mRd, h])]; simp [rdP]
      | dl ds => rw [E_no (by simp only [mRd, h])]; simp [rdP]
      | tab _ _ => rw [E_no (by simp only [mRd, h])]; simp [rdP]
    | al j k => rw [E_no (by simp only [mRd, h])]; simp [rdP]
@[simp] theorem look_val {d : D} : look r (.val d) = some (.fz d) := rfl
@[simp] theorem look2_val {d : D} : look2 r (.val d) = some (.fz d) := rfl
def lookSl : Option Sl → Option Rs
  | some (.frz _ d) => some (.fz d)
  | some (.own _ c) => some (.ow c)
  | _ => none
def lookAl (r : Ro) (k : Nat) : Option Sl → Option Rs
  | some (.own _ (.ll rows)) => rows[k]?.map fun ds => .ow (.lst ds)
  | _ => none
def lookSl2 (r : Ro) : Option Sl → Option Rs
  | some (.frz _ d) => some (.fz d)
  | some (.own _ c) => some (.ow c)
  | some (.al j k) => lookAl r k r[j]?
  | _ => none
@[simp] theorem lookSl_frz {b : Bool} {d : D} : lookSl (some (.frz b d)) = some (.fz d) := rfl
@[simp] theorem lookSl_own {b : Bool} {c : Ct} : lookSl (some (.own b c)) = some (.ow c) := rfl
@[simp] theorem lookSl2_frz {b : Bool} {d : D} : lookSl2 r (some (.frz b d)) = some (.fz d) := rfl
@[simp] theorem lookSl2_own {b : Bool} {c : Ct} : lookSl2 r (some (.own b c)) = some (.ow c) := rfl
@[simp] theorem lookSl2_al {j k : Nat} : lookSl2 r (some (.al j k)) = lookAl r k r[j]? := rfl
@[simp] theorem lookAl_ll {b : Bool} {k : Nat} {rows : List (List D)} : lookAl r k (some (.own b (.ll rows))) = rows[k]?.map fun ds => .ow (.lst ds) := rfl
@[simp] theorem look_slot {i : Nat} : look r (.slot i) = lookSl r[i]? := by
  unfold look lookSl
  cases h : r[i]? with
  | none => simp [h]
  | some x => cases x <;> simp [h]
@[simp] theorem look2_slot {i : Nat} : look2 r (.slot i) = lookSl2 r r[i]? := by
  unfold look2 lookSl2
  cases h : r[i]? with
  | none => simp [h]
  | some x =>
    cases x with
    | al j k =>
      simp only [h]
      unfold lookAl
      cases h2 : r[j]? with
      | none => simp
      | some y => cases y with
        | own b c => cases c <;> simp
        | _ => simp
    | _ => simp [h]
@[simp, simp ↓] theorem E_oS {i : Nat} {Q : AV → Ro → Prop} : E X (oS i) r Q ↔ optP (lookSl2 r r[i]?) fun _ => Q (.slot i) r := by
  cases h : lookSl2 r r[i]? with
  | none => rw [E_no (by simp only [oS, look2_slot, h])]; simp
  | some x => rw [E_some (by simp only [oS, look2_slot, h]; rfl)]; simp
@[simp] theorem data_val {d : D} : (RV.val d).data = some d := rfl
@[simp] theorem data_lst {ds : List D} : (RV.new (.lst ds)).data = some (.list ds) := rfl
@[simp] theorem rdata_fz {d : D} : (Rs.fz d).data = some d := rfl
@[simp] theorem rdata_lst {ds : List D} : (Rs.ow (.lst ds)).data = some (.list ds) := rfl
@[simp, simp ↓] theorem E_oE {m : M RV} {Q : AV → Ro → Prop} : E X (oE m) r Q ↔ E X m r fun v r' => optP v.data fun d => Q (.val d) r' := by
  unfold oE
  rw [E_bind]
  constructor
  · intro h
    refine h.mono fun v r' h => ?_
    rw [E_of] at h
    obtain ⟨a, e, q⟩ := h
    cases hv : v.data with
    | none => rw [hv] at e; cases e
    | some d => rw [hv] at e; cases e; exact ⟨d, rfl, q⟩
  · intro h
    refine h.mono fun v r' h => ?_
    obtain ⟨d, e, q⟩ := h
    rw [E_of, e]
    exact ⟨_, rfl, q⟩
@[simp, simp ↓] theorem E_oL_nil {Q : List AV → Ro → Prop} : E X (oL []) r Q ↔ Q [] r := E_ret
@[simp, simp ↓] theorem E_oL_cons {m : M AV} {ms : List (M AV)} {Q : List AV → Ro → Prop} : E X (oL (m :: ms)) r Q ↔ E X m r fun a r1 => E X (oL ms) r1 fun as r2 => Q (a :: as) r2 := by
  show E X (m.bind fun a => (oL ms).bind fun as => M.ret (a :: as)) r Q ↔ _
  simp only [E_bind, E_ret]
@[simp] theorem looks2_nil : looks2 r [] = some [] := rfl
@[simp] theorem looks_nil : looks r [] = some [] := rfl
def consO : Option Rs → Option (List Rs) → Option (List Rs)
  | some x, some xs => some (x :: xs)
  | _, _ => none
@[simp] theorem consO_some {x : Rs} {xs : List Rs} : consO (some x) (some xs) = some (x :: xs) := rfl
@[simp] theorem consO_none {xs : Option (List Rs)} : consO none xs = none := by cases xs <;> rfl
@[simp] theorem looks2_cons {a : AV} {as : List AV} : looks2 r (a :: as) = consO (look2 r a) (looks2 r as) := by
  show (match look2 r a, looks2 r as with | some x, some xs => some (x :: xs) | _, _ => none) = _
  cases look2 r a <;> cases looks2 r as <;> rfl
@[simp] theorem looks_cons {a : AV} {as : List AV} : looks r (a :: as) = consO (look r a) (looks r as) := by
  show (match look r a, looks r as with | some x, some xs => some (x :: xs) | _, _ => none) = _
  cases look r a <;> cases looks r as <;> rfl
@[simp, simp ↓] theorem E_mFin {g : List Rs → Option RV} {as : List AV} {Q : RV → Ro → Prop} : E X (mFin g as) r Q ↔ optP (looks2 r as) fun xs => optP (g xs) fun v => Q v r := by
  cases h : looks2 r as with
  | none => rw [E_no (by simp only [mFin, h])]; simp
  | some xs => cases h2 : g xs with
    | none => rw [E_no (by simp [mFin, h, h2])]; simp [h2]
    | some v => rw [E_some (by simp only [mFin, h, h2]; rfl)]; simp [h2]
@[simp, simp ↓] theorem E_mOp {g : List Rs → Option RV} {os : List (M AV)} {Q : RV → Ro → Prop} : E X (mOp g os) r Q ↔ E X (oL os) r fun as r' => optP (looks2 r' as) fun xs => optP (g xs) fun v => Q v r' := by
  unfold mOp
  simp only [E_bind, E_mFin]
@[simp, simp ↓] theorem E_mOpL {g : List Rs → Option (List D)} {os : List (M AV)} {Q : List D → Ro → Prop} : E X (mOpL g os) r Q ↔ E X (oL os) r fun as r' => optP (looks2 r' as) fun xs => optP (g xs) fun v => Q v r' := by
  refine Iff.trans (E_bind (m := oL os)) ?_
  constructor
  · intro h
    refine h.mono fun as r' h => ?_
    obtain ⟨v, r2, e, q⟩ := h
    cases h2 : looks2 r' as with
    | none => simp [h2] at e
    | some xs => cases h3 : g xs with
      | none => simp [h2, h3] at e
      | some v => simp [h2, h3] at e; obtain ⟨rfl, rfl⟩ := e; exact ⟨xs, rfl, v, h3, q⟩
  · intro h
    refine h.mono fun as r' h => ?_
    obtain ⟨xs, e1, v, e2, q⟩ := h
    exact ⟨.ok v, r', by simp only [e1, e2]; rfl, q⟩
@[simp, simp ↓] theorem E_mTst {m : M RV} {Q : Bool → Ro → Prop} : E X (mTst m) r Q ↔ E X m r fun v r' => optP (boolV v) fun b => Q b r' := by
  unfold mTst
  simp only [E_bind, E_of]
@[simp] theorem boolV_b {b : Bool} : boolV (.val (.bool b)) = some b := rfl
@[simp, simp ↓] theorem E_mNot {m : M Bool} {Q : Bool → Ro → Prop} : E X (mNot m) r Q ↔ E X m r fun b r' => Q (!b) r' := by
  unfold mNot
  simp only [E_bind, E_ret]
@[simp, simp ↓] theorem E_mAnd {a b : M Bool} {Q : Bool → Ro → Prop} : E X (mAnd a b) r Q ↔ E X a r fun x r' => ifP x (E X b r' Q) (Q false r') := by
  unfold mAnd
  rw [E_bind]
  constructor <;> exact fun h => h.mono fun x r' h => by cases x <;> simpa using h
@[simp, simp ↓] theorem E_mOr {a b : M Bool} {Q : Bool → Ro → Prop} : E X (mOr a b) r Q ↔ E X a r fun x r' => ifP x (Q true r') (E X b r' Q) := by
  unfold mOr
  rw [E_bind]
  constructor <;> exact fun h => h.mono fun x r' h => by cases x <;> simpa using h
@[simp, simp ↓] theorem E_mFz {m : M RV} {Q : D → Ro → Prop} : E X (mFz m) r Q ↔ E X m r fun v r' => optP v.data fun d => Q d r' := by
  unfold mFz
  simp only [E_bind, E_of]
def andP (X : Exn → Ro → Prop) (b : M RV) (r : Ro) (Q : RV → Ro → Prop) : RV → Prop
  | .val (.bool true) => E X b r Q
  | .val (.bool false) => Q (.val (.bool false)) r
  | _ => False
@[simp, simp ↓] theorem andP_b {b : M RV} {x : Bool} {Q : RV → Ro → Prop} : andP X b r Q (.val (.bool x)) ↔ ifP x (E X b r Q) (Q (.val (.bool false)) r) := by cases x <;> simp [andP]
theorem E_none {Q : α → Ro → Prop} : ¬ E X (M.of none) r Q := fun h => (E_no rfl).mp h
@[simp, simp ↓] theorem E_mAndV {a b : M RV} {Q : RV → Ro → Prop} : E X (mAndV a b) r Q ↔ E X a r fun v r' => andP X b r' Q v := by
  unfold mAndV
  rw [E_bind]
  constructor
  · exact fun h => h.mono fun v r' h => by
      cases v with
      | new c => exact (E_none h).elim
      | val d => cases d with
        | bool x => cases x with
          | false => exact E_ret.mp h
          | true => exact h
        | _ => exact (E_none h).elim
  · exact fun h => h.mono fun v r' h => by
      cases v with
      | new c => exact h.elim
      | val d => cases d with
        | bool x => cases x with
          | false => exact E_ret.mpr h
          | true => exact h
        | _ => exact h.elim
def notP (r : Ro) (Q : RV → Ro → Prop) : RV → Prop
  | .val (.bool b) => Q (.val (.bool !b)) r
  | _ => False
@[simp, simp ↓] theorem notP_b {x : Bool} {Q : RV → Ro → Prop} : notP r Q (.val (.bool x)) = Q (.val (.bool !x)) r := rfl
@[simp, simp ↓] theorem E_mNotV {a : M RV} {Q : RV → Ro → Prop} : E X (mNotV a) r Q ↔ E X a r fun v r' => notP r' Q v := by
  unfold mNotV
  rw [E_bind]
  constructor
  · exact fun h => h.mono fun v r' h => by
      cases v with
      | new c => exact (E_none h).elim
      | val d => cases d with
        | bool x => exact E_ret.mp h
        | _ => exact (E_none h).elim
  · exact fun h => h.mono fun v r' h => by
      cases v with
      | new c => exact h.elim
      | val d => cases d with
        | bool x => exact E_ret.mpr h
        | _ => exact h.elim
@[simp, simp ↓] theorem E_mRow {m : M RV} {Q : List D → Ro → Prop} : E X (mRow m) r Q ↔ E X m r fun v r' => optP v.data fun d => optP (rowOf d) fun xs => Q xs r' := by
  unfold mRow
  simp only [E_bind, E_of, E_mFz]
@[simp] theorem rowOf_l {xs : List D} : rowOf (.list xs) = some xs := rfl
@[simp] theorem rowOf_t {xs : List D} : rowOf (.tuple xs) = some xs := rfl
/-- a call -/
def backP (r : Ro) (as : List AV) (xs ys : List Rs) (k : Ro → Prop) : Prop := k (putBack r as xs ys)
@[simp, simp ↓] theorem backP_nil {r : Ro} {k : Ro → Prop} : backP r [] [] [] k ↔ k r := Iff.rfl
@[simp, simp ↓] theorem backP_val {d : D} {as : List AV} {x y : Rs} {xs ys : List Rs} {k : Ro → Prop} : backP r (.val d :: as) (x :: xs) (y :: ys) k ↔ backP r as xs ys k := by
  cases x <;> exact Iff.rfl
@[simp, simp ↓] theorem backP_fz {i : Nat} {d : D} {as : List AV} {y : Rs} {xs ys : List Rs} {k : Ro → Prop} : backP r (.slot i :: as) (.fz d :: xs) (y :: ys) k ↔ backP r as xs ys k := Iff.rfl
def put1P (i : Nat) (y : Rs) (r : Ro) (k : Ro → Prop) (x : Option Sl) (t : Tok k := .tok) : Prop := match x with
  | some (.own b _) => setP r i (backSl b y) k
  | _ => k r
@[simp, simp ↓] theorem put1P_own {i : Nat} {y : Rs} {b : Bool} {c : Ct} {k : Ro → Prop} : put1P i y r k (some (.own b c)) ↔ setP r i (backSl b y) k := Iff.rfl
@[simp, simp ↓] theorem backP_ow {i : Nat} {c : Ct} {as : List AV} {y : Rs} {xs ys : List Rs} {k : Ro → Prop} : backP r (.slot i :: as) (.ow c :: xs) (y :: ys) k ↔ put1P i y r (fun r' => backP r' as xs ys k) r[i]? := by
  show k (putBack (put1 r i y) as xs ys) ↔ _
  unfold put1 put1P
  cases r[i]? with
  | none => exact Iff.rfl
  | some x => cases x <;> exact Iff.rfl
def callP (o : Option (EO RV × List Rs)) (n : Nat) (k : EO RV → List Rs → Prop) (t : Tok k := .tok) : Prop := ∃ v ys, o = some (v, ys) ∧ ys.length = n ∧ k v ys
@[simp, simp ↓] theorem callP_ok {v : EO RV} {ys : List Rs} {n : Nat} {k : EO RV → List Rs → Prop} : callP (some (v, ys)) n k ↔ ys.length = n ∧ k v ys := ⟨fun ⟨a, b, e, q⟩ => (by cases e; exact q), fun q => ⟨v, ys, rfl, q⟩⟩
@[simp, simp ↓] theorem E_mCall {f : Sem} {ms : List (M AV)} {Q : RV → Ro → Prop} : E X (mCall f ms) r Q ↔ E X (oL ms) r fun as r' => optP (looks r' as) fun xs => (ownIx as xs).Nodup ∧ (ownIx as xs).all (noAl r') = true ∧ callP (f xs) xs.length fun o ys => backP r' as xs ys fun r' => endP X Q o r' := by
  refine Iff.trans (E_bind (m := oL ms)) ?_
  constructor
  · intro h
    refine h.mono fun as r' h => ?_
    obtain ⟨v, r2, e, q⟩ := h
    cases h2 : looks r' as with
    | none => simp [h2] at e
    | some xs =>
      simp only [h2] at e
      split at e
      · rename_i hc
        cases h3 : f xs with
        | none => simp [h3] at e
        | some p =>
          obtain ⟨o, ys⟩ := p
          simp only [h3] at e
          split at e
          · cases e
            exact ⟨xs, rfl, hc.1, hc.2, _, ys, h3, by assumption, q⟩
          · cases e
      · cases e
  · intro h
    refine h.mono fun as r' h => ?_
    obtain ⟨xs, e1, e2, e3, v, ys, e4, e5, q⟩ := h
    exact ⟨v, _, by simp only [e1, e4]; rw [if_pos ⟨e2, e3⟩, if_pos e5], q⟩
end
end DL
end

section
namespace DL
open PySem
theorem W_some {s : S} {r r' : Ro} {o : SO} {Q : SO → Ro → Prop} (h : s r = some (o, r')) : W s r Q ↔ Q o r' :=
  ⟨fun ⟨b, r2, e, q⟩ => (by rw [h] at e; cases e; exact q), fun q => ⟨o, r', h, q⟩⟩
theorem W_no {s : S} {r : Ro} {Q : SO → Ro → Prop} (h : s r = none) : W s r Q ↔ False :=
  ⟨fun ⟨b, r2, e, q⟩ => (by rw [h] at e; cases e), fun q => q.elim⟩
def thenP (b : S) (Q : SO → Ro → Prop) : SO → Ro → Prop
  | .nx, r => W b r Q
  | o, r => Q o r
section
variable {r : Ro} {Q : SO → Ro → Prop}
@[simp, simp ↓] theorem thenP_nx {b : S} : thenP b Q .nx r = W b r Q := rfl
@[simp, simp ↓] theorem thenP_ret {b : S} {v : RV} : thenP b Q (.ret v) r = Q (.ret v) r := rfl
@[simp, simp ↓] theorem thenP_rets {b : S} {i : Nat} : thenP b Q (.rets i) r = Q (.rets i) r := rfl
@[simp, simp ↓] theorem thenP_exc {b : S} {x : Exn} : thenP b Q (.exc x) r = Q (.exc x) r := rfl
@[simp, simp ↓] theorem thenP_brk {b : S} : thenP b Q .brk r = Q .brk r := rfl
@[simp, simp ↓] theorem thenP_cnt {b : S} : thenP b Q .cnt r = Q .cnt r := rfl
@[simp, simp ↓] theorem W_nx : W sNx r Q ↔ Q .nx r := W_some rfl
@[simp, simp ↓] theorem W_seq {a b : S} : W (sSeq a b) r Q ↔ W a r (thenP b Q) := by
  constructor
  · rintro ⟨o, r', e, q⟩
    unfold sSeq at e
    cases h : a r with
    | none => simp [h] at e
    | some p =>
      obtain ⟨o1, r1⟩ := p
      rw [h] at e
      refine ⟨o1, r1, h, ?_⟩
      cases o1 with
      | nx => exact ⟨o, r', e, q⟩
      | _ => simp only [Option.some.injEq, Prod.mk.injEq] at e; obtain ⟨rfl, rfl⟩ := e; exact q
  · rintro ⟨o1, r1, h, q⟩
    cases o1 with
    | nx =>
      obtain ⟨o, r', e, q⟩ := q
      exact ⟨o, r', by unfold sSeq; rw [h]; exact e, q⟩
    | _ => exact ⟨_, r1, by unfold sSeq; rw [h], q⟩
@[simp, simp ↓] theorem W_ex {α : Type} {m : M α} {k : α → S} : W (sEx m k) r Q ↔ E (fun x => Q (.exc x)) m r fun a r' => W (k a) r' Q := by
  cases hm : m r with
  | none => rw [E_no hm, W_no (by simp only [sEx, hm])]
  | some p =>
    obtain ⟨o, r1⟩ := p
    cases o with
    | ok a =>
      rw [E_some hm]
      unfold W sEx
      rw [hm]
    | exc x => rw [E_exc hm, W_some (by simp only [sEx, hm]; rfl)]
@[simp, simp ↓] theorem W_ret {m : M RV} : W (sRet m) r Q ↔ E (fun x => Q (.exc x)) m r fun v r' => Q (.ret v) r' := by
  refine Iff.trans (W_ex (m := m)) ?_
  constructor <;> exact fun h => h.mono fun v r' q => by
    first | exact (W_some rfl).mp q | exact (W_some rfl).mpr q
@[simp, simp ↓] theorem W_if {t : M Bool} {a b : S} : W (sIf t a b) r Q ↔ E (fun x => Q (.exc x)) t r fun x r' => ifP x (W a r' Q) (W b r' Q) := by
  refine Iff.trans (W_ex (m := t)) ?_
  constructor <;> exact fun h => h.mono fun v r' q => by cases v <;> simpa using q
@[simp, simp ↓] theorem W_drop {m : M RV} : W (sDrop m) r Q ↔ E (fun x => Q (.exc x)) m r fun _ r' => Q .nx r' := by
  refine Iff.trans (W_ex (m := m)) ?_
  simp only [W_nx]
def putP (i : Nat) (v : RV) (r : Ro) (Q : SO → Ro → Prop) (x : Option Sl) (t : Tok Q := .tok) : Prop := match x with
  | none => False
  | some x => putSl.pinnedB x = false ∧ match v with
    | .val d => setP r i (.frz false d) (Q .nx)
    | .new (.ll rows) => noAl r i = true ∧ setP r i (.own false (.ll rows)) (Q .nx)
    | .new c => setP r i (.own false c) (Q .nx)
@[simp, simp ↓] theorem putP_val {i : Nat} {d : D} {x : Sl} : putP i (.val d) r Q (some x) ↔ putSl.pinnedB x = false ∧ setP r i (.frz false d) (Q .nx) := Iff.rfl
@[simp, simp ↓] theorem putP_ll {i : Nat} {rows : List (List D)} {x : Sl} : putP i (.new (.ll rows)) r Q (some x) ↔ putSl.pinnedB x = false ∧ noAl r i = true ∧ setP r i (.own false (.ll rows)) (Q .nx) := Iff.rfl
@[simp, simp ↓] theorem putP_lst {i : Nat} {ds : List D} {x : Sl} : putP i (.new (.lst ds)) r Q (some x) ↔ putSl.pinnedB x = false ∧ setP r i (.own false (.lst ds)) (Q .nx) := Iff.rfl
@[simp, simp ↓] theorem putP_dK {i : Nat} {ds : List (Ky × D)} {x : Sl} : putP i (.new (.dK ds)) r Q (some x) ↔ putSl.pinnedB x = false ∧ setP r i (.own false (.dK ds)) (Q .nx) := Iff.rfl
@[simp] theorem pinned_frz {b : Bool} {d : D} : putSl.pinnedB (.frz b d) = b := rfl
@[simp] theorem pinned_own {b : Bool} {c : Ct} : putSl.pinnedB (.own b c) = b := rfl
@[simp] theorem pinned_non : putSl.pinnedB .non = false := rfl
@[simp] theorem pinned_al {j k : Nat} : putSl.pinnedB (.al j k) = false := rfl
@[simp, simp ↓] theorem W_put {i : Nat} {v : RV} : W (putSl i v) r Q ↔ putP i v r Q r[i]? := by
  cases h : r[i]? with
  | none => rw [W_no (by simp [putSl, h])]; exact Iff.rfl
  | some x =>
    cases hp : putSl.pinnedB x with
    | true => rw [W_no (by simp [putSl, h, hp])]; simp [putP, hp, setP]
    | false =>
      cases v with
      | val d => rw [W_some (by simp [putSl, h, hp]; exact ⟨rfl, rfl⟩)]; simp [putP, hp, setP]
      | new c => cases c with
        | ll rows =>
          cases hn : noAl r i with
          | true => rw [W_some (by simp [putSl, h, hp, hn]; exact ⟨rfl, rfl⟩)]; simp [putP, hp, hn, setP]
          | false => rw [W_no (by simp [putSl, h, hp, hn])]; simp [putP, hp, hn, setP]
        | _ => rw [W_some (by simp [putSl, h, hp]; exact ⟨rfl, rfl⟩)]; simp [putP, hp, setP]
@[simp, simp ↓] theorem W_setN {i : Nat} {d : D} : W (setN i d) r Q ↔ putP i (.val d) r Q r[i]? := W_put
@[simp, simp ↓] theorem W_set {i : Nat} {m : M RV} : W (sSet i m) r Q ↔ E (fun x => Q (.exc x)) m r fun v r' => putP i v r' Q r'[i]? := by
  refine Iff.trans (W_ex (m := m)) ?_
  simp only [W_put]
@[simp, simp ↓] theorem W_sets_nil : W (sets [] []) r Q ↔ Q .nx r := W_nx
@[simp, simp ↓] theorem W_sets_cons {f : D → S} {fs : List (D → S)} {d : D} {ds : List D} : W (sets (f :: fs) (d :: ds)) r Q ↔ W (f d) r (thenP (sets fs ds) Q) := W_seq
@[simp, simp ↓] theorem W_setT {fs : List (D → S)} {ds : List D} : W (setT fs (.tuple ds)) r Q ↔ W (sets fs ds) r Q := Iff.rfl
@[simp, simp ↓] theorem W_par {i j : Nat} {m n : M RV} : W (sPar i j m n) r Q ↔ E (fun x => Q (.exc x)) m r fun v r1 => optP v.data fun d => E (fun x => Q (.exc x)) n r1 fun u r2 => optP u.data fun e => putP i (.val d) r2 (thenP (putSl j (.val e)) Q) r2[i]? := by
  unfold sPar
  simp only [W_ex, E_mFz, W_seq, W_put]
@[simp, simp ↓] theorem W_unp {m : M RV} {set : D → S} : W (sUnp m set) r Q ↔ E (fun x => Q (.exc x)) m r fun v r1 => optP v.data fun d => W (set d) r1 Q := by
  unfold sUnp
  simp only [W_ex, E_mFz]
def loopP (I : Ro → Prop) (Q : SO → Ro → Prop) : SO → Ro → Prop
  | .nx, r => I r
  | .cnt, r => I r
  | .brk, r => Q .nx r
  | o, r => Q o r
@[simp, simp ↓] theorem loopP_nx {I : Ro → Prop} : loopP I Q .nx r = I r := rfl
@[simp, simp ↓] theorem loopP_cnt {I : Ro → Prop} : loopP I Q .cnt r = I r := rfl
@[simp, simp ↓] theorem loopP_brk {I : Ro → Prop} : loopP I Q .brk r = Q .nx r := rfl
@[simp, simp ↓] theorem loopP_rets {I : Ro → Prop} {i : Nat} : loopP I Q (.rets i) r = Q (.rets i) r := rfl
@[simp, simp ↓] theorem loopP_exc {I : Ro → Prop} {x : Exn} : loopP I Q (.exc x) r = Q (.exc x) r := rfl
@[simp, simp ↓] theorem loopP_ret {I : Ro → Prop} {v : RV} : loopP I Q (.ret v) r = Q (.ret v) r := rfl
def nxP (body : S) (P : SO → Ro → Prop) : SO → Ro → Prop
  | .nx, r => W body r P
  | _, _ => False
@[simp, simp ↓] theorem nxP_nx {b : S} {P : SO → Ro → Prop} : nxP b P .nx r = W b r P := rfl
theorem forS_nil {set : D → S} {body : S} : Q .nx r → W (forS set body []) r Q := fun h => W_nx.mpr h
theorem forS_cons {set : D → S} {body : S} {d : D} {ds : List D} (h : W (set d) r (nxP body (loopP (fun r => W (forS set body ds) r Q) Q))) : W (forS set body (d :: ds)) r Q := by
  obtain ⟨o, r1, e1, h⟩ := h
  cases o with
  | nx =>
    obtain ⟨o, r2, e2, h⟩ := h
    cases o with
    | nx =>
      obtain ⟨o, r3, e3, q⟩ := h
      exact ⟨o, r3, by unfold forS; simp only [e1, e2]; exact e3, q⟩
    | cnt =>
      obtain ⟨o, r3, e3, q⟩ := h
      exact ⟨o, r3, by unfold forS; simp only [e1, e2]; exact e3, q⟩
    | brk => exact ⟨.nx, r2, by unfold forS; simp only [e1, e2], h⟩
    | ret v => exact ⟨.ret v, r2, by unfold forS; simp only [e1, e2], h⟩
    | rets i => exact ⟨.rets i, r2, by unfold forS; simp only [e1, e2], h⟩
    | exc x => exact ⟨.exc x, r2, by unfold forS; simp only [e1, e2], h⟩
  | _ => exact h.elim
/-- a for loop by an invariant: I k before the k-th item -/
theorem forS_inv {set : D → S} {body : S} (I : Nat → Ro → Prop) : ∀ (ds : List D) (n : Nat) (r : Ro), I n r →
    (∀ k d r, ds[k]? = some d → I (n + k) r → W (set d) r (nxP body (loopP (I (n + k + 1)) Q))) → (∀ r, I (n + ds.length) r → Q .nx r) → W (forS set body ds) r Q := by
  intro ds
  induction ds with
  | nil => intro n r h _ hq; exact forS_nil (hq _ h)
  | cons d ds ih =>
    intro n r h step hq
    refine forS_cons ((step 0 d r rfl h).mono fun o r1 h1 => ?_)
    cases o with
    | nx =>
      refine W.mono h1 fun o r2 h2 => ?_
      have go : I (n + 1) r2 → W (forS set body ds) r2 Q := fun h2 => ih (n + 1) r2 h2 (fun k d r e h => by
        have := step (k + 1) d r e (by rw [show n + (k + 1) = n + 1 + k by omega]; exact h)
        rw [show n + (k + 1) + 1 = n + 1 + k + 1 by omega] at this
        exact this) fun r h => hq r (by rw [show n + (d :: ds).length = n + 1 + ds.length by simp; omega]; exact h)
      cases o with
      | nx => exact go h2
      | cnt => exact go h2
      | brk => exact h2
      | ret v => exact h2
      | rets i => exact h2
      | exc x => exact h2
    | _ => exact h1.elim
@[simp, simp ↓] theorem W_for {mi : M (List D)} {set : D → S} {body : S} : W (sFor mi set body) r Q ↔ E (fun x => Q (.exc x)) mi r fun ds r' => W (forS set body ds) r' Q := W_ex
/-- range's items -/
theorem rng0_get {n : Int} {k : Nat} {d : D} (h : (rng 0 n)[k]? = some d) : d = .int k ∧ (k : Int) < n := by
  unfold rng at h
  rw [List.getElem?_map] at h
  cases h2 : (List.range (n - 0).toNat)[k]? with
  | none => rw [h2] at h; cases h
  | some j =>
    rw [h2] at h
    obtain ⟨h3, h4⟩ := List.getElem?_eq_some_iff.mp h2
    simp at h3 h4
    subst h4
    cases h
    exact ⟨by simp, by omega⟩
theorem rng0_len {n : Int} : (rng 0 n).length = n.toNat := by simp [rng]
def updK (r : Ro) (i : Nat) (ds : List D) (k : Ro → Prop) : Prop := k (updSl r i ds)
def updP (i : Nat) (ds : List D) (r : Ro) (K : Ro → Prop) (x : Option Sl) (t : Tok K := .tok) : Prop := match x with
  | some (.own b _) => setP r i (.own b (.lst ds)) K
  | some (.al j k) => match r[j]? with
    | some (.own b (.ll rows)) => setP r j (.own b (.ll (rows.set k ds))) K
    | _ => K r
  | _ => K r
def updAl (j k : Nat) (ds : List D) (r : Ro) (K : Ro → Prop) (x : Option Sl) (t : Tok K := .tok) : Prop := match x with
  | some (.own b (.ll rows)) => setP r j (.own b (.ll (rows.set k ds))) K
  | _ => K r
@[simp, simp ↓] theorem updP_own {i : Nat} {ds : List D} {b : Bool} {c : Ct} {K : Ro → Prop} : updP i ds r K (some (.own b c)) ↔ setP r i (.own b (.lst ds)) K := Iff.rfl
@[simp, simp ↓] theorem updAl_ll {j k : Nat} {ds : List D} {b : Bool} {rows : List (List D)} {K : Ro → Prop} : updAl j k ds r K (some (.own b (.ll rows))) ↔ setP r j (.own b (.ll (rows.set k ds))) K := Iff.rfl
@[simp, simp ↓] theorem updP_al {i j k : Nat} {ds : List D} {K : Ro → Prop} : updP i ds r K (some (.al j k)) ↔ updAl j k ds r K r[j]? := Iff.rfl
@[simp, simp ↓] theorem updK_def {i : Nat} {ds : List D} {K : Ro → Prop} : updK r i ds K ↔ updP i ds r K r[i]? := by
  unfold updK updSl updP
  cases r[i]? with
  | none => exact Iff.rfl
  | some x => cases x with
    | al j k =>
      simp only []
      cases r[j]? with
      | none => exact Iff.rfl
      | some y => cases y with
        | own b c => cases c <;> exact Iff.rfl
        | _ => exact Iff.rfl
    | _ => exact Iff.rfl
def lstO : Option Rs → Option (List D)
  | some (.ow (.lst ds)) => some ds
  | _ => none
@[simp] theorem lstO_lst {ds : List D} : lstO (some (.ow (.lst ds))) = some ds := rfl
@[simp] theorem listAt_def {i : Nat} : listAt r i = lstO (lookSl2 r r[i]?) := by
  unfold listAt
  rw [look2_slot]
  rfl
def mutP (X : Exn → Ro → Prop) (g : List D → List D → Option (List D × D)) (i : Nat) (ms : List (M AV)) (Q : RV → Ro → Prop) (r : Ro) (x : Option (List D)) (t : Tok Q := .tok) (u : Tok X := .tok) (w : Tok ms := .tok) : Prop := match x with
  | none => False
  | some _ => E X (oL ms) r fun as r' => optP (listAt r' i) fun ds => optP (looks2 r' as) fun xs => optP (dataAll xs) fun es => optP (g ds es) fun p => updK r' i p.1 (Q (.val p.2))
@[simp, simp ↓] theorem mutP_some {X : Exn → Ro → Prop} {g : List D → List D → Option (List D × D)} {i : Nat} {ms : List (M AV)} {Q : RV → Ro → Prop} {ds : List D} : mutP X g i ms Q r (some ds) ↔ E X (oL ms) r fun as r' => optP (listAt r' i) fun ds => optP (looks2 r' as) fun xs => optP (dataAll xs) fun es => optP (g ds es) fun p => updK r' i p.1 (Q (.val p.2)) := Iff.rfl
@[simp, simp ↓] theorem E_mMut {X : Exn → Ro → Prop} {g : List D → List D → Option (List D × D)} {i : Nat} {ms : List (M AV)} {Q : RV → Ro → Prop} :
    E X (mMut g i ms) r Q ↔ mutP X g i ms Q r (listAt r i) := by
  cases h : listAt r i with
  | none => rw [E_no (by simp only [mMut, h])]; exact Iff.rfl
  | some ds0 =>
    rw [mutP_some]
    have e0 : ∀ f : List AV → M RV, (mMut g i ms r = (oL ms).bind f r) → (E X (mMut g i ms) r Q ↔ E X ((oL ms).bind f) r Q) := fun f e => by
      unfold E
      rw [e]
    refine (e0 _ (by unfold mMut; rw [h]; rfl)).trans ?_
    refine Iff.trans (E_bind (m := oL ms)) ?_
    constructor
    · intro h
      refine h.mono fun as r' h => ?_
      obtain ⟨v, r2, e, q⟩ := h
      cases h2 : listAt r' i with
      | none => simp only [h2] at e; cases e
      | some ds =>
        cases h3 : looks2 r' as with
        | none => simp only [h2, h3] at e; cases e
        | some xs =>
          cases h4 : dataAll xs with
          | none => simp only [h2, h3, h4] at e; cases e
          | some es =>
            cases h5 : g ds es with
            | none => simp only [h2, h3, h4, h5] at e; cases e
            | some p =>
              simp only [h2, h3, h4, h5] at e
              cases e
              exact ⟨ds, rfl, xs, rfl, es, h4, p, h5, q⟩
    · intro h
      refine h.mono fun as r' h => ?_
      obtain ⟨ds, h2, xs, h3, es, h4, p, h5, q⟩ := h
      exact ⟨.ok _, _, by simp only [h2, h3, h4, h5]; rfl, q⟩
def intO : D → Option Int
  | .int n => some n
  | _ => none
@[simp] theorem intO_i {n : Int} : intO (.int n) = some n := rfl
def subP (i : Nat) (d : D) (mi : M AV) (Q : SO → Ro → Prop) (r : Ro) (x : Option (List D)) (t : Tok Q := .tok) (u : Tok mi := .tok) : Prop := match x with
  | none => False
  | some _ => E (fun x => Q (.exc x)) mi r fun a r2 => optP (listAt r2 i) fun ds => optP (((look2 r2 a).bind Rs.data).bind intO) fun n => optP (ixD ds.length n) fun k => updK r2 i (ds.set k d) (Q .nx)
@[simp, simp ↓] theorem subP_some {i : Nat} {d : D} {mi : M AV} {ds : List D} : subP i d mi Q r (some ds) ↔ E (fun x => Q (.exc x)) mi r fun a r2 => optP (listAt r2 i) fun ds => optP (((look2 r2 a).bind Rs.data).bind intO) fun n => optP (ixD ds.length n) fun k => updK r2 i (ds.set k d) (Q .nx) := Iff.rfl
theorem W_congr {s s' : S} (h : s r = s' r) : W s r Q ↔ W s' r Q := by
  unfold W
  rw [h]
def subIn (i : Nat) (d : D) (a : AV) : S := fun r => match listAt r i, (look2 r a).bind Rs.data with
  | some ds, some (.int n) => (ixD ds.length n).map fun k => (.nx, updSl r i (ds.set k d))
  | _, _ => none
def subS (i : Nat) (d : D) (mi : M AV) : S := fun r => match listAt r i with
  | none => none
  | some _ => sEx mi (subIn i d) r
theorem W_subS {i : Nat} {d : D} {mi : M AV} : W (subS i d mi) r Q ↔ subP i d mi Q r (listAt r i) := by
  cases h : listAt r i with
  | none => rw [W_no (by simp only [subS, h])]; exact Iff.rfl
  | some ds0 =>
    refine (W_congr (s' := sEx mi (subIn i d)) (by simp only [subS, h])).trans ?_
    rw [subP_some]
    refine Iff.trans (W_ex (m := mi)) ?_
    constructor
    · intro h
      refine h.mono fun a r2 h => ?_
      obtain ⟨o, r3, e, q⟩ := h
      cases h2 : listAt r2 i with
      | none => simp only [subIn, h2] at e; cases e
      | some ds =>
        cases h3 : (look2 r2 a).bind Rs.data with
        | none => simp only [subIn, h2, h3] at e; cases e
        | some x =>
          cases x with
          | int n =>
            cases h4 : ixD ds.length n with
            | none => simp only [subIn, h2, h3, h4] at e; cases e
            | some k =>
              simp only [subIn, h2, h3, h4] at e
              cases e
              exact ⟨ds, rfl, n, rfl, k, h4, q⟩
          | _ => simp only [subIn, h2, h3] at e; cases e
    · intro h
      refine h.mono fun a r2 h => ?_
      obtain ⟨ds, h4, n, h5, k, h6, q⟩ := h
      cases h3 : (look2 r2 a).bind Rs.data with
      | none => rw [h3] at h5; cases h5
      | some x =>
        cases x with
        | int n => rw [h3] at h5; cases h5; exact ⟨.nx, updSl r2 i (ds.set k d), by simp only [subIn, h4, h3, h6]; rfl, q⟩
        | _ => rw [h3] at h5; cases h5
@[simp, simp ↓] theorem W_sub {i : Nat} {me : M RV} {mi : M AV} : W (sSub i me mi) r Q ↔ E (fun x => Q (.exc x)) me r fun v r1 => optP v.data fun d => subP i d mi Q r1 (listAt r1 i) := by
  refine Iff.trans (W_ex (m := mFz me) (k := fun d => subS i d mi)) ?_
  simp only [E_mFz, W_subS]
def handP (xs : List Rs) (P : EO RV → List Rs → Prop) (i : Nat) (r : Ro) (x : Option Sl) (t : Tok P := .tok) : Prop := match x with
  | some (.own false c) => allFz xs = true ∧ setP r i .non fun r' => P (.ok (.new c)) (outs xs 0 r')
  | _ => False
@[simp, simp ↓] theorem handP_own {xs : List Rs} {P : EO RV → List Rs → Prop} {i : Nat} {c : Ct} : handP xs P i r (some (.own false c)) ↔ allFz xs = true ∧ setP r i .non fun r' => P (.ok (.new c)) (outs xs 0 r') := Iff.rfl
@[simp] theorem allFz_nil : allFz [] = true := rfl
@[simp] theorem allFz_cons {d : D} {xs : List Rs} : allFz (.fz d :: xs) = allFz xs := rfl
def retP (xs : List Rs) (P : EO RV → List Rs → Prop) : SO → Ro → Prop
  | .rets i, r => handP xs P i r r[i]?
  | .ret v, r => P (.ok v) (outs xs 0 r)
  | .nx, r => P (.ok (.val .none)) (outs xs 0 r)
  | .exc x, r => P (.exc x) (outs xs 0 r)
  | _, _ => False
@[simp, simp ↓] theorem retP_ret {xs : List Rs} {P : EO RV → List Rs → Prop} {v : RV} : retP xs P (.ret v) r = P (.ok v) (outs xs 0 r) := rfl
@[simp, simp ↓] theorem retP_rets {xs : List Rs} {P : EO RV → List Rs → Prop} {i : Nat} : retP xs P (.rets i) r = handP xs P i r r[i]? := rfl
@[simp, simp ↓] theorem retP_nx {xs : List Rs} {P : EO RV → List Rs → Prop} : retP xs P .nx r = P (.ok (.val .none)) (outs xs 0 r) := rfl
@[simp, simp ↓] theorem retP_exc {xs : List Rs} {P : EO RV → List Rs → Prop} {x : Exn} : retP xs P (.exc x) r = P (.exc x) (outs xs 0 r) := rfl
theorem oks_def {n N : Nat} {body : S} {xs : List Rs} {P : EO RV → List Rs → Prop} (hn : xs.length = n) (h : W body (xs.map toSl ++ List.replicate (N - n) .non) (retP xs P)) : Oks (defSem n N body) xs P := by
  obtain ⟨o, r, e, q⟩ := h
  unfold Oks defSem
  rw [if_pos hn, e]
  cases o with
  | ret v => exact ⟨_, _, rfl, q⟩
  | rets i =>
    change handP xs P i r r[i]? at q
    show ∃ o ys, handOn xs i r = some (o, ys) ∧ P o ys
    unfold handOn
    cases h : r[i]? with
    | none => rw [h] at q; exact q.elim
    | some x =>
      rw [h] at q
      cases x with
      | own b c =>
        cases b with
        | false => simp only [q.1, if_true]; exact ⟨_, _, rfl, q.2⟩
        | true => exact q.elim
      | _ => exact q.elim
  | nx => exact ⟨_, _, rfl, q⟩
  | exc x => exact ⟨_, _, rfl, q⟩
  | _ => exact q.elim
end
end DL
end

section
namespace DL
open PySem
/-- the product is no monster -/
def SmM (a b : Int) : Prop := a.natAbs.log2 + b.natAbs.log2 < 1000000
instance (a b : Int) : Decidable (SmM a b) := inferInstanceAs (Decidable (_ < _))
theorem log2_small {a : Int} (h : -(2 ^ 200) ≤ a ∧ a ≤ 2 ^ 200) : a.natAbs.log2 ≤ 200 := by
  by_cases h0 : a.natAbs = 0
  · rw [h0]; decide
  · have : a.natAbs < 2 ^ 201 := by omega
    exact Nat.le_of_lt_succ ((Nat.log2_lt h0).mpr this)
theorem smM_of {a b : Int} (ha : -(2 ^ 200) ≤ a ∧ a ≤ 2 ^ 200) (hb : -(2 ^ 200) ≤ b ∧ b ≤ 2 ^ 200) : SmM a b := by
  have h1 := log2_small ha
  have h2 := log2_small hb
  unfold SmM
  omega
def SmD (j : Int) : Prop := j.natAbs.log2 < 9000
instance (a : Int) : Decidable (SmD a) := inferInstanceAs (Decidable (_ < _))
theorem smD_of {b : Int} (hb : -(2 ^ 200) ≤ b ∧ b ≤ 2 ^ 200) : SmD b := by
  have h2 := log2_small hb
  unfold SmD
  omega
section
variable {a b : Int}
@[simp] theorem gAdd_ii : gAdd [.fz (.int a), .fz (.int b)] = some (.val (.int (a + b))) := rfl
@[simp] theorem gSub_ii : gSub [.fz (.int a), .fz (.int b)] = some (.val (.int (a - b))) := rfl
@[simp] theorem gMul_ii : gMul [.fz (.int a), .fz (.int b)] = if SmM a b then some (.val (.int (a * b))) else none := rfl
@[simp] theorem gMod_ii : gMod [.fz (.int a), .fz (.int b)] = if 0 < b then some (.val (.int (a % b))) else none := by
  show Option.map _ (if 0 < b then some _ else none) = _
  split <;> rfl
@[simp] theorem gDiv_ii : gDiv [.fz (.int a), .fz (.int b)] = if 0 < b ∧ SmD b then some (.val (.int (a / b))) else none := by
  show Option.map _ (if 0 < b ∧ SmD b then some _ else none) = _
  split <;> rfl
@[simp] theorem gPow_ii : gPow [.fz (.int a), .fz (.int b)] = if 0 ≤ b ∧ b ≤ 1000000 ∧ a.natAbs < 2 ^ 64 then some (.val (.int (a ^ b.toNat))) else none := by
  show Option.map _ (if 0 ≤ b ∧ b ≤ 1000000 ∧ a.natAbs < 2 ^ 64 then some _ else none) = _
  split <;> rfl
@[simp] theorem gLt_ii : gLt [.fz (.int a), .fz (.int b)] = some (.val (.bool (decide (a < b)))) := rfl
@[simp] theorem gLe_ii : gLe [.fz (.int a), .fz (.int b)] = some (.val (.bool (decide (a ≤ b)))) := rfl
@[simp] theorem gGt_ii : gGt [.fz (.int a), .fz (.int b)] = some (.val (.bool (decide (b < a)))) := rfl
@[simp] theorem gGe_ii : gGe [.fz (.int a), .fz (.int b)] = some (.val (.bool (decide (b ≤ a)))) := rfl
theorem eqv_ii : PyData.eqv (.int a) (.int b) = (a == b) := by unfold PyData.eqv; rfl
theorem okD_i : okD (.int a) = true := by
  unfold okD PyData.canLay0 PyData.depth
  rfl
@[simp] theorem gEq_ii : gEq [.fz (.int a), .fz (.int b)] = some (.val (.bool (decide (a = b)))) := by
  show (if okD (.int a) && okD (.int b) then some (RV.val (.bool (PyData.eqv (.int a) (.int b)))) else none) = _
  rw [okD_i, okD_i, eqv_ii]
  rfl
@[simp] theorem gNe_ii : gNe [.fz (.int a), .fz (.int b)] = some (.val (.bool (!decide (a = b)))) := by
  show (if okD (.int a) && okD (.int b) then some (RV.val (.bool (!PyData.eqv (.int a) (.int b)))) else none) = _
  rw [okD_i, okD_i, eqv_ii]
  rfl
@[simp] theorem gAbs_i : gAbs [.fz (.int a)] = some (.val (.int (if a < 0 then -a else a))) := rfl
@[simp] theorem gMin2_ii : gMin2 [.fz (.int a), .fz (.int b)] = some (.val (.int (if b < a then b else a))) := rfl
end
section
variable {xs ys : List D} {i : Int} {d : D}
@[simp] theorem gLen_t : gLen [.fz (.tuple xs)] = some (.val (.int xs.length)) := rfl
@[simp] theorem gLen_l : gLen [.fz (.list xs)] = some (.val (.int xs.length)) := rfl
@[simp] theorem gLen_o : gLen [.ow (.lst xs)] = some (.val (.int xs.length)) := rfl
@[simp] theorem gLen_dK {kvs : List (Ky × D)} : gLen [.ow (.dK kvs)] = some (.val (.int kvs.length)) := rfl
@[simp] theorem gLen_ll {rows : List (List D)} : gLen [.ow (.ll rows)] = some (.val (.int rows.length)) := rfl
def ixP (xs : List D) (i : Int) : Option D := (ixD xs.length i).bind fun j => xs[j]?
@[simp] theorem gIx_t : gIx [.fz (.tuple xs), .fz (.int i)] = (ixP xs i).map .val := rfl
@[simp] theorem gIx_l : gIx [.fz (.list xs), .fz (.int i)] = (ixP xs i).map .val := rfl
@[simp] theorem gIx_o : gIx [.ow (.lst xs), .fz (.int i)] = (ixP xs i).map .val := rfl
@[simp] theorem ixP_0 : ixP (d :: xs) 0 = some d := by
  unfold ixP ixD
  simp
theorem ixP_nat {k : Nat} {d : D} (h : xs[k]? = some d) : ixP xs (k : Int) = some d := by
  have := (List.getElem?_eq_some_iff.mp h).1
  unfold ixP ixD
  rw [if_pos (by omega), if_pos (by omega)]
  simpa using h
theorem ixP_pos {i : Int} {d : D} (h0 : 0 ≤ i) (h : xs[i.toNat]? = some d) : ixP xs i = some d := by
  have := ixP_nat h
  rwa [Int.toNat_of_nonneg h0] at this
@[simp] theorem ixP_1 {a : D} : ixP (a :: d :: xs) 1 = some d := ixP_nat (k := 1) rfl
@[simp] theorem ixP_2 {a b : D} : ixP (a :: b :: d :: xs) 2 = some d := ixP_nat (k := 2) rfl
@[simp] theorem gTup_0 : gTup [] = some (.val (.tuple [])) := rfl
@[simp] theorem gTup_1 {a : D} : gTup [.fz a] = some (.val (.tuple [a])) := rfl
@[simp] theorem gTup_2 {a b : D} : gTup [.fz a, .fz b] = some (.val (.tuple [a, b])) := rfl
@[simp] theorem gTup_3 {a b c : D} : gTup [.fz a, .fz b, .fz c] = some (.val (.tuple [a, b, c])) := rfl
@[simp] theorem gLst_0 : gLst [] = some (.new (.lst [])) := rfl
@[simp] theorem gLst_1 {a : D} : gLst [.fz a] = some (.new (.lst [a])) := rfl
@[simp] theorem gLst_2 {a b : D} : gLst [.fz a, .fz b] = some (.new (.lst [a, b])) := rfl
@[simp] theorem gLst_3 {a b c : D} : gLst [.fz a, .fz b, .fz c] = some (.new (.lst [a, b, c])) := rfl
@[simp] theorem gTuple_l : gTuple [.fz (.list xs)] = some (.val (.tuple xs)) := rfl
@[simp] theorem gTuple_o : gTuple [.ow (.lst xs)] = some (.val (.tuple xs)) := rfl
@[simp] theorem gTuple_t : gTuple [.fz (.tuple xs)] = some (.val (.tuple xs)) := rfl
@[simp] theorem gList_l : gList [.fz (.list xs)] = some (.new (.lst xs)) := rfl
@[simp] theorem gList_o : gList [.ow (.lst xs)] = some (.new (.lst xs)) := rfl
@[simp] theorem gList_t : gList [.fz (.tuple xs)] = some (.new (.lst xs)) := rfl
@[simp] theorem gAdd_tt : gAdd [.fz (.tuple xs), .fz (.tuple ys)] = if xs.length + ys.length ≤ lineD then some (.val (.tuple (xs ++ ys))) else none := rfl
@[simp] theorem gRng1_i : gRng1 [.fz (.int i)] = if okR i = true then some (rng 0 i) else none := rfl
@[simp] theorem okR_iff : okR i = true ↔ -(2 ^ 62) ≤ i ∧ i < 2 ^ 62 := by simp [okR]
@[simp] theorem dataAll_nil : dataAll [] = some [] := rfl
@[simp] theorem dataAll_cons {as : List Rs} : dataAll (.fz d :: as) = (dataAll as).map (d :: ·) := rfl
@[simp] theorem gAppend_1 : gAppend xs [d] = if xs.length < lineD then some (xs ++ [d], .none) else none := rfl
@[simp] theorem ixD_0 {n : Nat} : ixD n 0 = if 0 < n then some 0 else none := by
  unfold ixD
  by_cases h : 0 < n
  · rw [if_pos (by omega), if_pos (by omega), if_pos h]; rfl
  · rw [if_pos (by omega), if_neg (by omega), if_neg h]
theorem ixD_nat {n k : Nat} (h : k < n) : ixD n (k : Int) = some k := by
  unfold ixD
  rw [if_pos (by omega), if_pos (by omega)]; rfl
@[simp] theorem ixD_1 {n : Nat} : ixD (n + 2) 1 = some 1 := ixD_nat (k := 1) (by omega)
@[simp] theorem ixD_2 {n : Nat} : ixD (n + 3) 2 = some 2 := ixD_nat (k := 2) (by omega)
end
@[simp] theorem ownIx_nil : ownIx [] [] = [] := rfl
@[simp] theorem ownIx_val {d : D} {as : List AV} {x : Rs} {xs : List Rs} : ownIx (.val d :: as) (x :: xs) = ownIx as xs := rfl
@[simp] theorem ownIx_fz {i : Nat} {d : D} {as : List AV} {xs : List Rs} : ownIx (.slot i :: as) (.fz d :: xs) = ownIx as xs := rfl
@[simp] theorem ownIx_ow {i : Nat} {c : Ct} {as : List AV} {xs : List Rs} : ownIx (.slot i :: as) (.ow c :: xs) = i :: ownIx as xs := rfl
@[simp] theorem backSl_ow {b : Bool} {c : Ct} : backSl b (.ow c) = .own b c := rfl
@[simp] theorem backSl_fz {b : Bool} {d : D} : backSl b (.fz d) = .frz b d := rfl
@[simp] theorem toSl_fz {d : D} : toSl (.fz d) = .frz false d := rfl
@[simp] theorem toSl_ow {c : Ct} : toSl (.ow c) = .own true c := rfl
@[simp] theorem outs_nil {k : Nat} {r : Ro} : outs [] k r = [] := rfl
@[simp] theorem outs_fz {d : D} {xs : List Rs} {k : Nat} {r : Ro} : outs (.fz d :: xs) k r = .fz d :: outs xs (k + 1) r := rfl
def outP (c : Ct) : Option Sl → Rs
  | some (.own _ c') => .ow c'
  | some (.frz _ d) => .fz d
  | _ => .ow c
@[simp] theorem outP_own {c c' : Ct} {b : Bool} : outP c (some (.own b c')) = .ow c' := rfl
@[simp] theorem outP_frz {c : Ct} {d : D} {b : Bool} : outP c (some (.frz b d)) = .fz d := rfl
@[simp] theorem outs_ow {c : Ct} {xs : List Rs} {k : Nat} {r : Ro} : outs (.ow c :: xs) k r = outP c r[k]? :: outs xs (k + 1) r := rfl
def alB (i : Nat) : Sl → Bool
  | .al j _ => j != i
  | _ => true
@[simp] theorem noAl_nil {i : Nat} : noAl [] i = true := rfl
@[simp] theorem noAl_cons {i : Nat} {x : Sl} {r : Ro} : noAl (x :: r) i = (alB i x && noAl r i) := by
  unfold noAl
  rw [List.all_cons]
  cases x <;> rfl
@[simp] theorem alB_frz {i : Nat} {b : Bool} {d : D} : alB i (.frz b d) = true := rfl
@[simp] theorem alB_own {i : Nat} {b : Bool} {c : Ct} : alB i (.own b c) = true := rfl
@[simp] theorem alB_non {i : Nat} : alB i .non = true := rfl
@[simp] theorem alB_al {i j k : Nat} : alB i (.al j k) = (j != i) := rfl
/-- a slot that a loop may store to -/
structure Fr (x : Sl) : Prop where
  pin : putSl.pinnedB x = false
  al : ∀ i, alB i x = true
theorem Fr.non : Fr .non := ⟨rfl, fun _ => rfl⟩
theorem Fr.frz {d : D} : Fr (.frz false d) := ⟨rfl, fun _ => rfl⟩
theorem Fr.lst {c : Ct} : Fr (.own false c) := ⟨rfl, fun _ => rfl⟩
end DL
end

section
namespace DL
open PySem
section
variable {X : Exn → Ro → Prop} {r : Ro}
/-- the walk of a comprehension -/
def lcK (vs : List Nat) (set : D → S) (t : M Bool) (e : M RV) (ds acc : List D) (r : Ro) (k : List D → Ro → Prop) : Prop := ∃ zs r', lcM vs set t e ds acc r = some (zs, r') ∧ k zs r'
def wipeP (r : Ro) (k : Ro → Prop) : List Nat → Prop
  | [] => k r
  | v :: vs => wipeP r (fun r' => setP r' v .non k) vs
@[simp, simp ↓] theorem wipeP_nil {k : Ro → Prop} : wipeP r k [] ↔ k r := Iff.rfl
@[simp, simp ↓] theorem wipeP_cons {v : Nat} {vs : List Nat} {k : Ro → Prop} : wipeP r k (v :: vs) ↔ wipeP r (fun r' => setP r' v .non k) vs := Iff.rfl
theorem wipeP_eq {vs : List Nat} : ∀ {k : Ro → Prop}, wipeP r k vs ↔ k (wipeR r vs) := by
  induction vs with
  | nil => intro k; exact Iff.rfl
  | cons v vs ih => intro k; exact ih
@[simp, simp ↓] theorem E_mLc {vs : List Nat} {mi : M (List D)} {set : D → S} {t : M Bool} {e : M RV} {Q : RV → Ro → Prop} : E X (mLc vs mi set t e) r Q ↔ E X mi r fun ds r' => anyPin r' vs = false ∧ wipeP r' (fun r2 => lcK vs set t e ds [] r2 fun zs r3 => Q (.new (.lst zs)) r3) vs := by
  refine Iff.trans (E_bind (m := mi)) ?_
  simp only [wipeP_eq]
  constructor
  · intro h
    refine h.mono fun ds r' h => ?_
    obtain ⟨v, r2, e1, q⟩ := h
    cases h1 : anyPin r' vs with
    | true => simp [h1] at e1
    | false =>
      simp only [h1, Bool.false_eq_true, if_false] at e1
      obtain ⟨⟨a, b⟩, e2, e3⟩ := Option.map_eq_some_iff.mp e1
      cases e3
      exact ⟨rfl, a, b, e2, q⟩
  · intro h
    refine h.mono fun ds r' ⟨h1, a, b, e2, q⟩ => ?_
    exact ⟨.ok (.new (.lst a)), b, by simp only [h1, e2]; rfl, q⟩
/-- the item behind the test -/
def itP (t : M Bool) (e : M RV) (k : Option D → Ro → Prop) : SO → Ro → Prop
  | .nx, r => E (fun _ _ => False) t r fun b r2 => ifP b (E (fun _ _ => False) (mFz e) r2 fun x r3 => k (some x) r3) (k none r2)
  | _, _ => False
@[simp, simp ↓] theorem itP_nx {t : M Bool} {e : M RV} {k : Option D → Ro → Prop} : itP t e k .nx r ↔ E (fun _ _ => False) t r fun b r2 => ifP b (E (fun _ _ => False) (mFz e) r2 fun x r3 => k (some x) r3) (k none r2) := Iff.rfl
/-- a comprehension by what each item gives -/
theorem lcK_of {vs : List Nat} {set : D → S} {t : M Bool} {e : M RV} (f : D → Option D) : ∀ {ds acc : List D} {k : List D → Ro → Prop},
    (∀ d ∈ ds, W (set d) r (itP t e fun x r3 => x = f d ∧ wipeP r3 (fun r4 => r4 = r) vs)) → acc.length + ds.length ≤ lineD → k (acc ++ ds.filterMap f) r → lcK vs set t e ds acc r k := by
  intro ds
  induction ds with
  | nil => intro acc k _ _ hk; exact ⟨_, _, rfl, by simpa using hk⟩
  | cons d ds ih =>
    intro acc k hs hl hk
    obtain ⟨o, r1, e1, h⟩ := hs d (List.mem_cons_self ..)
    have rest := fun d' h' => hs d' (List.mem_cons_of_mem _ h')
    cases o with
    | nx =>
      obtain ⟨b, r2, e2, h⟩ := h
      cases b with
      | exc x => exact h.elim
      | ok b =>
        cases b with
        | true =>
          have h := ifP_true.mp h
          obtain ⟨x, r3, e3, h⟩ := h
          cases x with
          | exc x => exact h.elim
          | ok x =>
            obtain ⟨h1, h2⟩ := h
            rw [wipeP_eq] at h2
            have : (acc ++ [x]).length + ds.length ≤ lineD := by simp at hl ⊢; omega
            obtain ⟨zs, r', e4, q⟩ := ih (acc := acc ++ [x]) rest this (by simpa [List.filterMap_cons, ← h1] using hk)
            refine ⟨zs, r', ?_, q⟩
            unfold lcM
            simp only [e1, e2, e3, h2]
            rw [if_pos (by simp at hl; omega)]
            exact e4
        | false =>
          have h := ifP_false.mp h
          obtain ⟨h1, h2⟩ := h
          rw [wipeP_eq] at h2
          obtain ⟨zs, r', e4, q⟩ := ih (acc := acc) rest (by simp at hl ⊢; omega) (by simpa [List.filterMap_cons, ← h1] using hk)
          refine ⟨zs, r', ?_, q⟩
          unfold lcM
          simp only [e1, e2, h2]
          exact e4
    | _ => exact h.elim
/-- a comprehension whose items change the slots, by an invariant: k items done, these the results -/
theorem lcK_inv {vs : List Nat} {set : D → S} {t : M Bool} {e : M RV} (I : Nat → List D → Ro → Prop) : ∀ {ds acc : List D} {n : Nat} {r : Ro} {k : List D → Ro → Prop}, I n acc r → acc.length + ds.length ≤ lineD →
    (∀ j d acc r, ds[j]? = some d → I (n + j) acc r → W (set d) r (itP t e fun x r3 => wipeP r3 (fun r4 => I (n + j + 1) (acc ++ x.toList) r4) vs)) → (∀ zs r', I (n + ds.length) zs r' → k zs r') → lcK vs set t e ds acc r k := by
  intro ds
  induction ds with
  | nil => intro acc n r k h _ _ hk; exact ⟨_, _, rfl, hk _ _ h⟩
  | cons d ds ih =>
    intro acc n r k hI hl hs hk
    obtain ⟨o, r1, e1, h⟩ := hs 0 d acc r rfl hI
    have rest : ∀ j d' acc r, ds[j]? = some d' → I (n + 1 + j) acc r → W (set d') r (itP t e fun x r3 => wipeP r3 (fun r4 => I (n + 1 + j + 1) (acc ++ x.toList) r4) vs) := fun j d' acc r e h => by
      have := hs (j + 1) d' acc r e (by rw [show n + (j + 1) = n + 1 + j by omega]; exact h)
      rw [show n + (j + 1) = n + 1 + j by omega] at this
      exact this
    have hk' : ∀ zs r', I (n + 1 + ds.length) zs r' → k zs r' := fun zs r' h => hk zs r' (by rw [show n + (d :: ds).length = n + 1 + ds.length by simp; omega]; exact h)
    cases o with
    | nx =>
      obtain ⟨b, r2, e2, h⟩ := h
      cases b with
      | exc x => exact h.elim
      | ok b =>
        cases b with
        | true =>
          have h := ifP_true.mp h
          obtain ⟨x, r3, e3, h⟩ := h
          cases x with
          | exc x => exact h.elim
          | ok x =>
            have h : wipeP r3 (fun r4 => I (n + 0 + 1) (acc ++ [x]) r4) vs := h
            rw [wipeP_eq] at h
            obtain ⟨zs, r', e4, q⟩ := ih (acc := acc ++ [x]) h (by simp at hl ⊢; omega) rest hk'
            refine ⟨zs, r', ?_, q⟩
            unfold lcM
            simp only [e1, e2, e3]
            rw [if_pos (by simp at hl; omega)]
            exact e4
        | false =>
          have h := ifP_false.mp h
          have h : wipeP r2 (fun r4 => I (n + 0 + 1) (acc ++ []) r4) vs := h
          rw [wipeP_eq, List.append_nil] at h
          obtain ⟨zs, r', e4, q⟩ := ih (acc := acc) h (by simp at hl ⊢; omega) rest hk'
          refine ⟨zs, r', ?_, q⟩
          unfold lcM
          simp only [e1, e2]
          exact e4
    | _ => exact h.elim
theorem lcK_map {vs : List Nat} {set : D → S} {t : M Bool} {e : M RV} (f : D → D) {ds : List D} {k : List D → Ro → Prop}
    (h : ∀ d ∈ ds, W (set d) r (itP t e fun x r3 => x = some (f d) ∧ wipeP r3 (fun r4 => r4 = r) vs)) (hl : ds.length ≤ lineD) (hk : k (ds.map f) r) : lcK vs set t e ds [] r k :=
  lcK_of (fun d => some (f d)) h (by simpa using hl) (by simpa using hk)
/-- new lists -/
def lcLK (vs : List Nat) (set : D → S) (t : M Bool) (e : M RV) (ds : List D) (acc : List (List D)) (r : Ro) (k : List (List D) → Ro → Prop) : Prop := ∃ zs r', lcL vs set t e ds acc r = some (zs, r') ∧ k zs r'
@[simp, simp ↓] theorem E_mLcL {vs : List Nat} {mi : M (List D)} {set : D → S} {t : M Bool} {e : M RV} {Q : RV → Ro → Prop} : E X (mLcL vs mi set t e) r Q ↔ E X mi r fun ds r' => anyPin r' vs = false ∧ wipeP r' (fun r2 => lcLK vs set t e ds [] r2 fun zs r3 => Q (.new (.ll zs)) r3) vs := by
  refine Iff.trans (E_bind (m := mi)) ?_
  simp only [wipeP_eq]
  constructor
  · intro h
    refine h.mono fun ds r' h => ?_
    obtain ⟨v, r2, e1, q⟩ := h
    cases h1 : anyPin r' vs with
    | true => simp [h1] at e1
    | false =>
      simp only [h1, Bool.false_eq_true, if_false] at e1
      obtain ⟨⟨a, b⟩, e2, e3⟩ := Option.map_eq_some_iff.mp e1
      cases e3
      exact ⟨rfl, a, b, e2, q⟩
  · intro h
    refine h.mono fun ds r' ⟨h1, a, b, e2, q⟩ => ?_
    exact ⟨.ok (.new (.ll a)), b, by simp only [h1, e2]; rfl, q⟩
def itLP (t : M Bool) (e : M RV) (k : RV → Ro → Prop) : SO → Ro → Prop
  | .nx, r => E (fun _ _ => False) t r fun b r2 => ifP b (E (fun _ _ => False) e r2 k) False
  | _, _ => False
@[simp, simp ↓] theorem itLP_nx {t : M Bool} {e : M RV} {k : RV → Ro → Prop} : itLP t e k .nx r ↔ E (fun _ _ => False) t r fun b r2 => ifP b (E (fun _ _ => False) e r2 k) False := Iff.rfl
theorem lcLK_map {vs : List Nat} {set : D → S} {t : M Bool} {e : M RV} (f : D → List D) : ∀ {ds : List D} {acc : List (List D)} {k : List (List D) → Ro → Prop},
    (∀ d ∈ ds, W (set d) r (itLP t e fun x r3 => x = .new (.lst (f d)) ∧ wipeP r3 (fun r4 => r4 = r) vs)) → acc.length + ds.length ≤ lineD → k (acc ++ ds.map f) r → lcLK vs set t e ds acc r k := by
  intro ds
  induction ds with
  | nil => intro acc k _ _ hk; exact ⟨_, _, rfl, by simpa using hk⟩
  | cons d ds ih =>
    intro acc k hs hl hk
    obtain ⟨o, r1, e1, h⟩ := hs d (List.mem_cons_self ..)
    have rest := fun d' h' => hs d' (List.mem_cons_of_mem _ h')
    cases o with
    | nx =>
      obtain ⟨b, r2, e2, h⟩ := h
      cases b with
      | exc x => exact h.elim
      | ok b =>
        cases b with
        | true =>
          have h := ifP_true.mp h
          obtain ⟨x, r3, e3, h⟩ := h
          cases x with
          | exc x => exact h.elim
          | ok x =>
            obtain ⟨rfl, h2⟩ := h
            rw [wipeP_eq] at h2
            have : (acc ++ [f d]).length + ds.length ≤ lineD := by simp at hl ⊢; omega
            obtain ⟨zs, r', e4, q⟩ := ih (acc := acc ++ [f d]) rest this (by simpa using hk)
            refine ⟨zs, r', ?_, q⟩
            unfold lcL
            simp only [e1, e2, e3, h2]
            rw [if_pos (by simp at hl; omega)]
            exact e4
        | false => exact (ifP_false.mp h).elim
    | _ => exact h.elim
@[simp, simp ↓] theorem E_mBd_none {Q : Option Int → Ro → Prop} : E X (mBd none) r Q ↔ Q none r := E_ret
@[simp, simp ↓] theorem E_mBd_some {m : M AV} {Q : Option Int → Ro → Prop} : E X (mBd (some m)) r Q ↔ E X m r fun a r1 => optP (((look2 r1 a).bind Rs.data).bind intO) fun n => Q (some n) r1 := by
  refine Iff.trans (E_bind (m := m)) ?_
  constructor
  · intro h
    refine h.mono fun a r' h => ?_
    obtain ⟨v, r2, e1, q⟩ := h
    cases h1 : (look2 r' a).bind Rs.data with
    | none => simp only [h1] at e1; cases e1
    | some d => cases d with
      | int n => simp only [h1] at e1; cases e1; exact ⟨n, rfl, q⟩
      | _ => simp only [h1] at e1; cases e1
  · intro h
    refine h.mono fun a r' ⟨n, h1, q⟩ => ?_
    cases h2 : (look2 r' a).bind Rs.data with
    | none => rw [h2] at h1; cases h1
    | some d => cases d with
      | int n => rw [h2] at h1; cases h1; exact ⟨.ok (some n), r', by simp only [h2], q⟩
      | _ => rw [h2] at h1; cases h1
theorem E_fun {α β : Type} {m : M α} {f : α → M β} {g : α → Ro → Option β} (hf : ∀ a r, f a r = (g a r).map fun v => (.ok v, r)) {Q : β → Ro → Prop} : E X (m.bind f) r Q ↔ E X m r fun a r1 => optP (g a r1) fun v => Q v r1 := by
  refine Iff.trans E_bind ?_
  constructor
  · intro h
    refine h.mono fun a r' ⟨v, r2, e1, q⟩ => ?_
    rw [hf] at e1
    cases h1 : g a r' with
    | none => rw [h1] at e1; cases e1
    | some b => rw [h1] at e1; cases e1; exact ⟨b, rfl, q⟩
  · intro h
    refine h.mono fun a r' ⟨v, e1, q⟩ => ?_
    exact ⟨.ok v, r', by rw [hf, e1]; rfl, q⟩
@[simp, simp ↓] theorem E_mSl {m : M AV} {lo hi : Option (M AV)} {Q : RV → Ro → Prop} : E X (mSl m lo hi) r Q ↔ E X m r fun a r1 => E X (mBd lo) r1 fun l r2 => E X (mBd hi) r2 fun h r3 => optP ((look2 r3 a).bind (gCut l h)) fun v => Q v r3 := by
  refine Iff.trans (E_bind (m := m)) ?_
  constructor <;> intro h <;> refine h.mono fun a r1 h => ?_
  · refine (E_bind (m := mBd lo).mp h).mono fun l r2 h => ?_
    exact (E_fun (m := mBd hi) fun _ _ => rfl).mp h
  · refine E_bind (m := mBd lo).mpr (h.mono fun l r2 h => ?_)
    exact (E_fun (m := mBd hi) fun _ _ => rfl).mpr h
@[simp] theorem gCut_t {lo hi : Option Int} {xs : List D} : gCut lo hi (.fz (.tuple xs)) = some (.val (.tuple (cutD xs lo hi))) := rfl
@[simp] theorem gCut_l {lo hi : Option Int} {xs : List D} : gCut lo hi (.fz (.list xs)) = some (.new (.lst (cutD xs lo hi))) := rfl
@[simp] theorem gCut_o {lo hi : Option Int} {xs : List D} : gCut lo hi (.ow (.lst xs)) = some (.new (.lst (cutD xs lo hi))) := rfl
theorem scrL_map (ns : List Int) : scrL (ns.map fun n => (PyData.int n, PyData.none)) = some ns := by
  induction ns with
  | nil => rfl
  | cons n ns ih => simp [scrL, ih]
theorem scrOf_map (ns : List Int) : scrOf ((PyData.none, PyData.none) :: ns.map fun n => (PyData.int n, PyData.none)) = some ns := scrL_map ns
@[simp] theorem gCut_scr {lo hi : Option Int} {ns : List Int} : gCut lo hi (.fz (.dict ((.none, .none) :: ns.map fun n => (PyData.int n, PyData.none)))) = some (.new (.lst ((cutD ns lo hi).map .int))) := by
  show (scrOf ((PyData.none, PyData.none) :: ns.map fun n => (PyData.int n, PyData.none))).map _ = _
  rw [scrOf_map]
  rfl
@[simp, simp ↓] theorem E_mIsi {ts : List Ty} {m : M AV} {Q : RV → Ro → Prop} : E X (mIsi ts m) r Q ↔ E X m r fun a r1 => optP ((look2 r1 a).bind Rs.data) fun d => optP (anyTy ts d) fun b => Q (.val (.bool b)) r1 := by
  refine Iff.trans (E_fun (m := m) (g := fun a r => ((look2 r a).bind Rs.data).bind fun d => (anyTy ts d).map fun b => .val (.bool b)) fun a r => ?_) ?_
  · cases (look2 r a).bind Rs.data with
    | none => rfl
    | some d => cases h : anyTy ts d <;> simp [h]
  · constructor
    · exact fun h => h.mono fun a r1 ⟨v, e, q⟩ => by
        obtain ⟨d, e1, e2⟩ := Option.bind_eq_some_iff.mp e
        obtain ⟨b, e3, rfl⟩ := Option.map_eq_some_iff.mp e2
        exact ⟨d, e1, b, e3, q⟩
    · exact fun h => h.mono fun a r1 ⟨d, e1, b, e3, q⟩ => ⟨.val (.bool b), by rw [e1]; simp [e3], q⟩
@[simp] theorem keyAt_def {a : AV} : keyAt r a = ((look2 r a).bind Rs.data).bind kyOf := rfl
@[simp] theorem kyOf_i {n : Int} : kyOf (.int n) = some (.inl n) := rfl
@[simp] theorem kyOf_s {x : Str} : kyOf (.str x) = some (.inr x) := rfl
theorem valD_put {κ : Type} [DecidableEq κ] {kvs : List (κ × D)} {k k' : κ} {v : D} : valD (putD kvs k v) k' = if k' = k then some v else valD kvs k' := by
  unfold putD
  split
  · rename_i h
    obtain ⟨⟨k0, v0⟩, hm, h0⟩ := List.any_eq_true.mp h
    unfold valD
    clear h
    induction kvs with
    | nil => cases hm
    | cons a kvs ih =>
      obtain ⟨ka, va⟩ := a
      rw [List.map_cons]
      by_cases hka : ka = k
      · subst hka
        by_cases hk' : k' = ka
        · subst hk'; simp
        · have hk2 : ¬ ka = k' := fun e => hk' e.symm
          simp only [if_true, List.find?_cons, hk2, decide_false, hk', if_false]
          clear ih hm
          induction kvs with
          | nil => rfl
          | cons b kvs ih2 =>
            obtain ⟨kb, vb⟩ := b
            rw [List.map_cons]
            by_cases hkb : kb = ka
            · subst hkb
              simp only [if_true, List.find?_cons, hk2, decide_false]
              exact ih2
            · simp only [hkb, if_false, List.find?_cons]
              by_cases hkb' : kb = k'
              · simp [hkb']
              · simp only [hkb', decide_false]; exact ih2
      · rcases List.mem_cons.mp hm with e | hm
        · cases e; simp at h0; exact absurd h0 hka
        · have := ih hm
          simp only [hka, if_false, List.find?_cons]
          by_cases hk' : ka = k'
          · have : ¬ k' = k := fun e => hka (hk'.trans e)
            simp [hk', this]
          · simp only [hk', decide_false]; exact this
  · rename_i h
    unfold valD
    rw [List.find?_append]
    by_cases hk : k' = k
    · subst hk
      have : kvs.find? (fun kv => decide (kv.1 = k')) = none := List.find?_eq_none.mpr fun x hx hd => h (List.any_eq_true.mpr ⟨x, hx, hd⟩)
      rw [this]
      simp
    · have : ¬ k = k' := fun e => hk e.symm
      cases kvs.find? (fun kv => decide (kv.1 = k')) <;> simp [hk, this]
theorem putD_len {κ : Type} [DecidableEq κ] {kvs : List (κ × D)} {k : κ} {v : D} : (putD kvs k v).length ≤ kvs.length + 1 := by
  unfold putD
  split <;> simp
theorem sIxD_nat {n d k : Nat} : sIxD n d (some (k : Int)) = min k n := by
  unfold sIxD
  dsimp only
  rw [if_neg (by omega)]
  simp
theorem cutD_take {α : Type} {xs : List α} {n : Nat} : cutD xs none (some (n : Int)) = xs.take n := by
  unfold cutD
  rw [sIxD_nat]
  show List.take (min n xs.length - 0) (List.drop 0 xs) = _
  rw [Nat.sub_zero, List.drop_zero]
  by_cases h : n ≤ xs.length
  · rw [Nat.min_eq_left h]
  · rw [Nat.min_eq_right (by omega), List.take_of_length_le (by omega), List.take_of_length_le (by omega)]
theorem cutD_drop {α : Type} {xs : List α} {n : Nat} : cutD xs (some (n : Int)) none = xs.drop n := by
  unfold cutD
  rw [sIxD_nat]
  show List.take (xs.length - _) _ = _
  by_cases h : n ≤ xs.length
  · rw [Nat.min_eq_left h, List.take_of_length_le (by simp)]
  · rw [Nat.min_eq_right (by omega), List.drop_eq_nil_of_le (by omega), List.drop_eq_nil_of_le (by omega)]; simp
@[simp] theorem cutD_take1 {α : Type} {xs : List α} : cutD xs none (some 1) = xs.take 1 := cutD_take (n := 1)
@[simp] theorem cutD_drop1 {α : Type} {xs : List α} : cutD xs (some 1) none = xs.drop 1 := cutD_drop (n := 1)
end
end DL
end

section
namespace DL
open PySem
section
variable {X : Exn → Ro → Prop} {r : Ro}
/-- the answer of a call that looks -/
def peekV : Option (EO RV × List Rs) → Nat → Option RV
  | some (.ok (.val d), ys), n => if flatD d && decide (ys.length = n) then some (.val d) else none
  | _, _ => none
@[simp] theorem peekV_ok {d : D} {ys : List Rs} {n : Nat} : peekV (some (.ok (.val d), ys)) n = if flatD d && decide (ys.length = n) then some (.val d) else none := rfl
@[simp] theorem flatD_b {b : Bool} : flatD (.bool b) = true := rfl
@[simp] theorem flatD_i {b : Int} : flatD (.int b) = true := rfl
@[simp] theorem flatD_n : flatD .none = true := rfl
@[simp] theorem flatD_s {b : Str} : flatD (.str b) = true := rfl
def viewsO : List Rs → Option (List Rs)
  | [] => some []
  | x :: xs => consO x.view (viewsO xs)
theorem mapM_view : ∀ xs : List Rs, xs.mapM Rs.view = viewsO xs
  | [] => rfl
  | x :: xs => by
    rw [List.mapM_cons, mapM_view xs]
    show _ = consO x.view (viewsO xs)
    cases x.view <;> cases viewsO xs <;> rfl
@[simp] theorem viewsO_nil : viewsO [] = some [] := rfl
@[simp] theorem viewsO_cons {x : Rs} {xs : List Rs} : viewsO (x :: xs) = consO x.view (viewsO xs) := rfl
@[simp] theorem view_fz {d : D} : (Rs.fz d).view = some (.fz d) := rfl
@[simp] theorem view_lst {ds : List D} : (Rs.ow (.lst ds)).view = some (.fz (.list ds)) := rfl
@[simp] theorem view_ll {rows : List (List D)} : (Rs.ow (.ll rows)).view = some (.fz (.list (rows.map .list))) := rfl
@[simp, simp ↓] theorem E_mPeek {f : Sem} {ms : List (M AV)} {Q : RV → Ro → Prop} : E X (mPeek f ms) r Q ↔ E X (oL ms) r fun as r' => optP (looks2 r' as) fun xs => optP (viewsO xs) fun ys => optP (peekV (f ys) ys.length) fun v => Q v r' := by
  refine Iff.trans (E_bind (m := oL ms)) ?_
  constructor
  · intro h
    refine h.mono fun as r' h => ?_
    obtain ⟨v, r2, e, q⟩ := h
    cases h2 : looks2 r' as with
    | none => simp [h2] at e
    | some xs =>
      simp only [h2, Option.bind_some, mapM_view] at e
      cases h3 : viewsO xs with
      | none => simp [h3] at e
      | some ys =>
        simp only [h3] at e
        split at e
        · rename_i d zs h4
          split at e
          · rename_i hc
            cases e
            exact ⟨xs, rfl, ys, h3, .val d, by rw [h4, peekV_ok, if_pos hc], q⟩
          · cases e
        · cases e
  · intro h
    refine h.mono fun as r' h => ?_
    obtain ⟨xs, e1, ys, e2, v, e3, q⟩ := h
    have e4 : ∃ d zs, f ys = some (.ok (.val d), zs) ∧ (flatD d && decide (zs.length = ys.length)) = true ∧ v = .val d := by
      cases hf : f ys with
      | none => rw [hf] at e3; cases e3
      | some p =>
        obtain ⟨o, zs⟩ := p
        rw [hf] at e3
        cases o with
        | exc x => cases e3
        | ok rv =>
          cases rv with
          | new c => cases e3
          | val d =>
            rw [peekV_ok] at e3
            split at e3
            · rename_i hc
              cases e3
              exact ⟨d, zs, rfl, hc, rfl⟩
            · cases e3
    obtain ⟨d, zs, e5, e6, rfl⟩ := e4
    exact ⟨.ok (.val d), r', by simp only [e1, Option.bind_some, mapM_view, e2, e5]; rw [if_pos e6], q⟩
end
section
variable {xs ys ds : List D} {d e : D} {i : Int}
@[simp] theorem gAdd_ll : gAdd [.fz (.list xs), .fz (.list ys)] = if xs.length + ys.length ≤ lineD then some (.new (.lst (xs ++ ys))) else none := rfl
@[simp] theorem gMinL_l : gMinL [.fz (.list (d :: ds))] = if mmOk (d :: ds) then some (.val (W.minD d ds)) else none := rfl
@[simp] theorem gMinL_t : gMinL [.fz (.tuple (d :: ds))] = if mmOk (d :: ds) then some (.val (W.minD d ds)) else none := rfl
@[simp] theorem gMinL_o : gMinL [.ow (.lst (d :: ds))] = if mmOk (d :: ds) then some (.val (W.minD d ds)) else none := rfl
@[simp] theorem gMaxL_l : gMaxL [.fz (.list (d :: ds))] = if mmOk (d :: ds) then some (.val (W.maxD d ds)) else none := rfl
@[simp] theorem gMaxL_t : gMaxL [.fz (.tuple (d :: ds))] = if mmOk (d :: ds) then some (.val (W.maxD d ds)) else none := rfl
@[simp] theorem gMaxL_o : gMaxL [.ow (.lst (d :: ds))] = if mmOk (d :: ds) then some (.val (W.maxD d ds)) else none := rfl
end
/-- data's looks -/
@[simp] theorem okE_i {i : Int} : okE (.int i) = true := by unfold okE PyData.canLay0 PyData.depth; rfl
@[simp] theorem okE_b {i : Bool} : okE (.bool i) = true := by unfold okE PyData.canLay0 PyData.depth; rfl
@[simp] theorem okE_n : okE .none = true := by unfold okE PyData.canLay0 PyData.depth; rfl
theorem lay_ints (ns : List Int) : PyData.canLayAll0 (ns.map .int) = true := by
  induction ns with
  | nil => simp [PyData.canLayAll0]
  | cons n ns ih => simp [PyData.canLayAll0, PyData.canLay0, ih]
theorem dep_ints (ns : List Int) : PyData.depthAll (ns.map .int) = 0 := W.depth_ints ns
@[simp] theorem okE_ti {ns : List Int} : okE (.tuple (ns.map .int)) = true := by
  unfold okE PyData.canLay0 PyData.depth
  rw [lay_ints, dep_ints]
  rfl
@[simp] theorem okE_li {ns : List Int} : okE (.list (ns.map .int)) = true := by
  unfold okE PyData.canLay0 PyData.depth
  rw [lay_ints, dep_ints]
  rfl
@[simp] theorem all_okE_ints {ns : List Int} : (ns.map PyData.int).all okE = true := by
  rw [List.all_map]
  exact List.all_eq_true.mpr fun n _ => okE_i
theorem eqv_ints : ∀ (ns ms : List Int), PyData.eqvAll (ns.map .int) (ms.map .int) = decide (ns = ms)
  | [], [] => by simp [PyData.eqvAll]
  | [], _ :: _ => by simp [PyData.eqvAll]
  | _ :: _, [] => by simp [PyData.eqvAll]
  | n :: ns, m :: ms => by
    simp only [List.map_cons, PyData.eqvAll, eqv_ints ns ms, eqv_ii]
    by_cases h : n = m <;> simp [h]
@[simp] theorem eqv_ti {ns ms : List Int} : PyData.eqv (.tuple (ns.map .int)) (.tuple (ms.map .int)) = decide (ns = ms) := by
  unfold PyData.eqv
  exact eqv_ints ns ms
@[simp] theorem eqv_int2 {a b : Int} : PyData.eqv (.int a) (.int b) = decide (a = b) := by
  rw [eqv_ii]
  rfl
end DL
end

section
namespace DL
open PySem
end DL
end

section
namespace DL
open PySem
section
variable {X : Exn → Ro → Prop} {r : Ro}
end
end DL
end

section
namespace DL
open PySem
section
variable {X : Exn → Ro → Prop} {r : Ro}
end
end DL
end

section
namespace DL
open PySem
section
variable {X : Exn → Ro → Prop} {r : Ro}
end
end DL
end

section
namespace DL
open PySem
section
variable {X : Exn → Ro → Prop} {r : Ro}
end
end DL
end

section
namespace DL
open PySem
section
variable {X : Exn → Ro → Prop} {r : Ro}
end
end DL
end

section
namespace DL
open PySem
section
variable {r : Ro}
def bodyA (I : Ro → Prop) : SO → Ro → Prop
  | .nx, r => I r
  | .cnt, r => I r
  | _, _ => False
@[simp, simp ↓] theorem bodyA_nx {I : Ro → Prop} : bodyA I .nx r = I r := rfl
@[simp, simp ↓] theorem bodyA_cnt {I : Ro → Prop} : bodyA I .cnt r = I r := rfl
theorem forA_run {i j : Nat} {mb : S} (I : Nat → Ro → Prop) (L : Nat) (hij : i ≠ j)
    (st : ∀ k r, k < L → I k r → ∃ rows x, r[i]? = some (Sl.own true (.ll rows)) ∧ r[j]? = some x ∧ k < rows.length ∧ putSl.pinnedB x = false ∧ W mb (r.set j (.al i k)) (bodyA (I (k + 1))))
    (fin : ∀ r, I L r → ∃ rows, r[i]? = some (Sl.own true (.ll rows)) ∧ rows.length = L) :
    ∀ n k r, n + k = L → I k r → ∃ r', forA i j mb n k r = some (.nx, r') ∧ I L r' := by
  intro n
  induction n with
  | zero =>
    intro k r e h
    have : k = L := by omega
    subst this
    obtain ⟨rows, h1, h2⟩ := fin r h
    exact ⟨r, by unfold forA; rw [h1]; simp only; rw [if_pos h2], h⟩
  | succ n ih =>
    intro k r e h
    obtain ⟨rows, x, h1, h2, h3, h4, o, r1, h5, h6⟩ := st k r (by omega) h
    cases o with
    | nx =>
      obtain ⟨r', g1, g2⟩ := ih (k + 1) r1 (by omega) h6
      exact ⟨r', by unfold forA; rw [h1, h2]; simp only; rw [if_pos ⟨h3, hij, h4⟩, h5]; exact g1, g2⟩
    | cnt =>
      obtain ⟨r', g1, g2⟩ := ih (k + 1) r1 (by omega) h6
      exact ⟨r', by unfold forA; rw [h1, h2]; simp only; rw [if_pos ⟨h3, hij, h4⟩, h5]; exact g1, g2⟩
    | _ => exact h6.elim
theorem W_forA {i j : Nat} {mb : S} {b : Bool} {rows : List (List D)} {Q : SO → Ro → Prop} (h0 : r[i]? = some (.own b (.ll rows))) (hij : i ≠ j) (hn : noAl r i = true) (I : Nat → Ro → Prop) (hI : setP r i (.own true (.ll rows)) (I 0))
    (st : ∀ k r, k < rows.length → I k r → ∃ rows x, r[i]? = some (Sl.own true (.ll rows)) ∧ r[j]? = some x ∧ k < rows.length ∧ putSl.pinnedB x = false ∧ W mb (r.set j (.al i k)) (bodyA (I (k + 1))))
    (fin : ∀ r, I rows.length r → ∃ rows' x, r[i]? = some (Sl.own true (.ll rows')) ∧ rows'.length = rows.length ∧ r[j]? = some x ∧ putSl.pinnedB x = false ∧ noAl (r.set j .non) i = true ∧ Q .nx ((r.set j .non).set i (.own b (.ll rows')))) :
    W (sForA i j mb) r Q := by
  obtain ⟨r', g1, g2⟩ := forA_run I rows.length hij st (fun r h => by obtain ⟨rows', x, h1, h2, _⟩ := fin r h; exact ⟨rows', h1, h2⟩) rows.length 0 _ rfl hI
  obtain ⟨rows', x, h1, h2, h3, h4, h5, h6⟩ := fin r' g2
  refine ⟨.nx, _, ?_, h6⟩
  unfold sForA
  rw [h0]
  simp only
  rw [if_pos hn, g1]
  simp only
  unfold outA
  rw [h1, h3]
  simp only
  rw [if_pos ⟨h5, hij, h4⟩]
end
end DL
end

section
namespace DL
open PySem
section
variable {X : Exn → Ro → Prop} {r : Ro}
def llO : Sl → Option (Bool × List (List D))
  | .own b (.ll rows) => some (b, rows)
  | _ => none
@[simp] theorem llO_ll {b : Bool} {rows : List (List D)} : llO (.own b (.ll rows)) = some (b, rows) := rfl
theorem llO_eq {x : Sl} {p : Bool × List (List D)} (h : llO x = some p) : x = .own p.1 (.ll p.2) := by
  unfold llO at h
  split at h
  · cases h; rfl
  · cases h
@[simp, simp ↓] theorem E_mClrL {j : Nat} {Q : RV → Ro → Prop} : E X (mClrL j) r Q ↔ optP (r[j]?.bind llO) fun p => noAl r j = true ∧ setP r j (.own p.1 (.ll [])) (Q (.val .none)) := by
  constructor
  · rintro ⟨o, r2, e, q⟩
    unfold mClrL at e
    split at e
    · rename_i b rows q1
      split at e
      · rename_i hn
        cases e
        exact ⟨(b, rows), by rw [q1]; rfl, hn, q⟩
      · cases e
    · cases e
  · rintro ⟨p, h1, hn, q⟩
    obtain ⟨x, q1, q2⟩ := Option.bind_eq_some_iff.mp h1
    refine ⟨.ok (.val .none), _, ?_, q⟩
    unfold mClrL
    rw [q1, llO_eq q2]
    simp only
    rw [if_pos hn]
end
end DL
end

section
namespace DL
open PySem
section
variable {X : Exn → Ro → Prop} {r : Ro}
@[simp] theorem hideSl_f {b : Bool} {d : D} : hideSl (.frz b d) = .frz b d := rfl
@[simp] theorem hideSl_n : hideSl .non = .non := rfl
@[simp] theorem hideSl_o {b : Bool} {c : Ct} : hideSl (.own b c) = .non := rfl
@[simp] theorem hideSl_a {j k : Nat} : hideSl (.al j k) = .non := rfl
@[simp, simp ↓] theorem hideR_0 {a : Sl} {ds : List D} : hideR (a :: r) 0 ds = .frz false (.list ds) :: r.map hideSl := rfl
@[simp, simp ↓] theorem hideR_s {a : Sl} {n : Nat} {ds : List D} : hideR (a :: r) (n + 1) ds = hideSl a :: hideR r n ds := rfl
@[simp] theorem lfree_i {n : Int} : lfree (.int n) = true := by simp [lfree]
@[simp] theorem lfree_t {ds : List D} : lfree (.tuple ds) = lfreeL ds := by simp [lfree]
@[simp] theorem lfreeL_n : lfreeL [] = true := by simp [lfreeL]
@[simp] theorem lfreeL_c {d : D} {ds : List D} : lfreeL (d :: ds) = (lfree d && lfreeL ds) := by simp [lfreeL]
@[simp] theorem lfreeRV_l {ds : List D} : lfreeRV (.new (.lst ds)) = lfreeL ds := rfl
@[simp] theorem lfreeRV_v {d : D} : lfreeRV (.val d) = lfree d := rfl
end
end DL
end

section
namespace DL
open PySem
end DL
end

section
namespace DL
open PySem
end DL
end

section
namespace DL
open PySem
section
variable {X : Exn → Ro → Prop} {r : Ro}
end
end DL
end

section
namespace DL
open PySem
section
variable {X : Exn → Ro → Prop} {r : Ro}
end
end DL
end

section
namespace DL
open PySem
section
variable {r : Ro}
@[simp, simp ↓] theorem W_sRaise {c : String} {Q : SO → Ro → Prop} : W (sRaise c) r Q ↔ Q (.exc ⟨c, none⟩) r :=
  ⟨fun ⟨o, r2, e, q⟩ => (by cases e; exact q), fun q => ⟨_, _, rfl, q⟩⟩
section
variable {L : List String} {i j : Nat} {ms : String → M RV} {Q : SO → Ro → Prop} {r1 : Ro}
end
end
end DL
end

section
namespace DL
open PySem
section
variable {r : Ro}
end
end DL
end

section
namespace DL
open PySem
end DL
end

section
namespace DL
open PySem
end DL
end

section
namespace DL
open PySem
@[simp] theorem gNeS_self {x : Str} : gNeS [.fz (.str x), .fz (.str x)] = some (.val (.bool false)) := by
  unfold gNeS
  simp [Rs.data]
/-- small things: they can be shown -/
structure Tny (w k : Nat) (d : D) : Prop where
  lay : d.canLay0 = true
  dep : d.depth ≤ k
  sho : PyData.showable d = true
  lea : PyData.leavesShort 13 d = true
  wei : d.weight ≤ w
theorem Tny.sh {w k : Nat} {d : D} (h : Tny w k d) (hr : isRow d = true) (hk : k ≤ 40) (hw : w ≤ 2 ^ 20) : shOk d = true := by
  unfold shOk okE
  have a := h.dep
  have b := h.wei
  rw [hr, h.lay, h.sho, h.lea, decide_eq_true (show d.depth ≤ 40 by omega), decide_eq_true (show d.weight ≤ 2 ^ 20 by omega)]
  rfl
section
variable {X : Exn → Ro → Prop} {r : Ro}
end
end DL
end

section
namespace DL
open PySem
section
variable {X : Exn → Ro → Prop} {r : Ro}
@[simp, simp ↓] theorem putP_dT {i : Nat} {ds : List (List Ky × D)} {x : Sl} {Q : SO → Ro → Prop} : putP i (.new (.dT ds)) r Q (some x) ↔ putSl.pinnedB x = false ∧ setP r i (.own false (.dT ds)) (Q .nx) := Iff.rfl
end
end DL
end

section
namespace DL
open PySem
section
variable {X : Exn → Ro → Prop} {r : Ro}
end
end DL
end

section
namespace DL
open PySem
section
variable {X : Exn → Ro → Prop} {r : Ro}
theorem E_fDisp {a : AV} {d : D} {Q : RV → Ro → Prop} : E X (fDisp a d) r Q ↔ optP (keyAt r a) fun k => Q (.new (.dK [(k, d)])) r := by
  constructor
  · rintro ⟨o, r2, e, q⟩
    unfold fDisp at e
    split at e
    · rename_i k qk
      cases e
      exact ⟨k, qk, q⟩
    · cases e
  · rintro ⟨k, qk, q⟩
    refine ⟨.ok _, r, ?_, q⟩
    unfold fDisp
    rw [qk]
@[simp, simp ↓] theorem E_mDisp1 {mk : M AV} {mv : M RV} {Q : RV → Ro → Prop} : E X (mDisp1 mk mv) r Q ↔ E X mk r fun a r1 => E X mv r1 fun v r2 => optP v.data fun d => optP (keyAt r2 a) fun k => Q (.new (.dK [(k, d)])) r2 := by
  unfold mDisp1
  rw [E_bind]
  constructor
  · exact fun h => h.mono fun a r1 h => by
      rw [E_bind, E_mFz] at h
      exact h.mono fun v r2 ⟨d, e, q⟩ => ⟨d, e, E_fDisp.mp q⟩
  · exact fun h => h.mono fun a r1 h => by
      rw [E_bind, E_mFz]
      exact h.mono fun v r2 ⟨d, e, q⟩ => ⟨d, e, E_fDisp.mpr q⟩
end
end DL
end

section
namespace DL
open PySem
end DL
end

section
namespace DL
open PySem
end DL
end

section
namespace DL
open PySem
@[simp, simp ↓] theorem E_mE0 {X : Exn → Ro → Prop} {r : Ro} {Q : RV → Ro → Prop} : E X mE0 r Q ↔ Q (.val (.dict [])) r := E_ret
end DL
end

section
namespace DL
open PySem
end DL
end

section
namespace DL
open PySem
theorem gStrI_i {i : Int} (h : i.natAbs.log2 < 1920) : gStrI [.fz (.int i)] = some (.val (.str (Str.ofString (toString i)))) := by
  unfold gStrI
  simp only [if_pos h]
end DL
end

section
namespace DL
open PySem
end DL
end

section
namespace DL
open PySem
section
variable {X : Exn → Ro → Prop} {r : Ro}
end
end DL
end

section
namespace DL
open PySem
section
variable {L : List String} {i : Nat} {ms : String → S} {Q : SO → Ro → Prop} {r r1 : Ro}
variable {X : Exn → Ro → Prop} {tbl : List (Str × Sem)} {mm : List (M AV)} {K : RV → Ro → Prop}
end
end DL
end

section
namespace DL
open PySem
end DL
end

section
namespace Lw
open PySem DL
/-- _law_pen(_law_script): slots 0:_law_script 1:_law_cell -/
noncomputable def b_Lpen_3d2f : S :=
    (sRet (mOp gLst [(oE (mLc [1] (mRow (mSl (oS 0) none (some (oE (mC (.int 63)))))) (setN 1) mYes (mRd 1))), (oE (mC (.int 0))), (oE (mC (.int 0)))]))
noncomputable def sem_Lpen_3d2f : Sem := defSem 1 2 b_Lpen_3d2f
/-- _law_draw(_law_pen_here, _law_many): slots 0:_law_pen_here 1:_law_many 2:_law_at 3:_law_cell 4:_law_number 5:_law_digit -/
noncomputable def b_Ldraw_de5b : S :=
    (sSeq (sIf (mTst (mOp gGt [(oE (mOp gIx [(oS 0), (oE (mC (.int 2)))])), (oE (mC (.int 0)))])) (sSeq (sSet 5 (mOp gMod [(oE (mOp gIx [(oS 0), (oE (mC (.int 2)))])), (oS 1)]))
    (sSeq (sSub 0 (mOp gDiv [(oE (mOp gIx [(oS 0), (oE (mC (.int 2)))])), (oS 1)]) (oE (mC (.int 2))))
    (sRet (mRd 5)))) sNx)
    (sSeq (sSet 2 (mOp gIx [(oS 0), (oE (mC (.int 1)))]))
    (sSeq (sSub 0 (mOp gAdd [(oS 2), (oE (mC (.int 1)))]) (oE (mC (.int 1))))
    (sSeq (sSet 3 (mC (.int 11)))
    (sSeq (sIf (mTst (mOp gGt [(oE (mOp gLen [(oE (mOp gIx [(oS 0), (oE (mC (.int 0)))]))])), (oE (mC (.int 0)))])) (sSet 3 (mOp gIx [(oE (mOp gIx [(oS 0), (oE (mC (.int 0)))])), (oE (mOp gMod [(oS 2), (oE (mOp gLen [(oE (mOp gIx [(oS 0), (oE (mC (.int 0)))]))]))]))])) sNx)
    (sSeq (sIf (mAnd (mTst (mOp gLt [(oS 2), (oE (mOp gLen [(oE (mOp gIx [(oS 0), (oE (mC (.int 0)))]))]))])) (mTst (mOp gGe [(oE (mOp gAbs [(oS 3)])), (oE (mOp gPow [(oE (mC (.int 10))), (oE (mC (.int 18)))]))]))) (sSeq (sSub 0 (mOp gDiv [(oE (mOp gAbs [(oS 3)])), (oS 1)]) (oE (mC (.int 2))))
    (sRet (mOp gMod [(oE (mOp gAbs [(oS 3)])), (oS 1)]))) sNx)
    (sSeq (sSet 4 (mOp gMod [(oE (mOp gMul [(oE (mOp gAdd [(oE (mOp gAdd [(oE (mOp gMod [(oS 3), (oE (mC (.int 2147483647)))])), (oE (mOp gMul [(oE (mC (.int 69621))), (oS 2)]))])), (oE (mC (.int 13)))])), (oE (mC (.int 48271)))])), (oE (mC (.int 2147483629)))]))
    (sSeq (sSet 4 (mOp gMod [(oE (mOp gAdd [(oE (mOp gAdd [(oE (mOp gMul [(oS 4), (oS 4)])), (oE (mOp gMul [(oE (mC (.int 40692))), (oS 4)]))])), (oS 2)])), (oE (mC (.int 2147483587)))]))
    (sRet (mOp gMod [(oE (mOp gDiv [(oE (mOp gMod [(oE (mOp gMul [(oS 4), (oE (mC (.int 16807)))])), (oE (mC (.int 2147483563)))])), (oE (mC (.int 32)))])), (oS 1)]))))))))))
noncomputable def sem_Ldraw_de5b : Sem := defSem 2 6 b_Ldraw_de5b
/-- _law_web(_law_pen_here, _law_places, _law_ties): slots 0:_law_pen_here 1:_law_places 2:_law_ties 3:_law_many 4:_law_way 5:_law_count 6:_law_found 7:_law_k 8:_law_a 9:_law_b -/
noncomputable def b_Lweb_0350 : S :=
    (sSeq (sSet 3 (mOp gAdd [(oE (mC (.int 1))), (oE (mCall sem_Ldraw_de5b [(oS 0), (oS 1)]))]))
    (sSeq (sSet 4 (mCall sem_Ldraw_de5b [(oS 0), (oE (mC (.int 6)))]))
    (sSeq (sSet 5 (mCall sem_Ldraw_de5b [(oS 0), (oE (mOp gAdd [(oS 2), (oE (mC (.int 1)))]))]))
    (sSeq (sIf (mTst (mOp gEq [(oS 4), (oE (mC (.int 5)))])) (sSeq (sSet 3 (mRd 1))
    (sSet 5 (mRd 2))) sNx)
    (sSeq (sSet 6 (mOp gLst []))
    (sSeq (sFor (mOpL gRng1 [(oS 5)]) (setN 7) (sSeq (sPar 8 9 (mCall sem_Ldraw_de5b [(oS 0), (oS 3)]) (mCall sem_Ldraw_de5b [(oS 0), (oS 3)]))
    (sSeq (sIf (mTst (mOp gEq [(oS 4), (oE (mC (.int 1)))])) (sPar 8 9 (mOp gMod [(oS 7), (oS 3)]) (mOp gMod [(oE (mOp gAdd [(oS 7), (oE (mC (.int 1)))])), (oS 3)])) sNx)
    (sSeq (sIf (mTst (mOp gEq [(oS 4), (oE (mC (.int 2)))])) (sSet 8 (mC (.int 0))) sNx)
    (sSeq (sIf (mTst (mOp gEq [(oS 4), (oE (mC (.int 3)))])) (sSet 9 (mOp gAdd [(oE (mOp gMod [(oS 8), (oE (mC (.int 2)))])), (oE (mOp gMul [(oE (mOp gDiv [(oS 9), (oE (mC (.int 2)))])), (oE (mC (.int 2)))]))])) sNx)
    (sSeq (sIf (mAnd (mTst (mOp gEq [(oS 4), (oE (mC (.int 4)))])) (mTst (mOp gEq [(oE (mOp gMod [(oS 9), (oE (mC (.int 2)))])), (oE (mC (.int 0)))]))) (sSet 9 (mRd 8)) sNx)
    (sDrop (mMut gAppend 6 [(oE (mOp gTup [(oE (mRd 8)), (oE (mOp gMin2 [(oS 9), (oE (mOp gSub [(oS 3), (oE (mC (.int 1)))]))]))]))]))))))))
    (sRet (mOp gTup [(oE (mRd 3)), (oE (mOp gTuple [(oS 6)]))]))))))))
noncomputable def sem_Lweb_0350 : Sem := defSem 3 10 b_Lweb_0350
/-- _law_same(_law_found, _law_due): slots 0:_law_found 1:_law_due 2:_law_one 3:_law_other -/
noncomputable def b_Lsame_1a4f (c_self : Sem) : S :=
    (sSeq (sIf (mTst (mIsi [.list, .tuple] (oS 1))) (sSeq (sIf (mOr (mNot (mTst (mIsi [.list, .tuple] (oS 0)))) (mTst (mOp gNe [(oE (mIsi [.list] (oS 0))), (oE (mIsi [.list] (oS 1)))]))) (sRet (mC (.bool false))) sNx)
    (sSeq (sIf (mTst (mOp gNe [(oE (mOp gLen [(oS 0)])), (oE (mOp gLen [(oS 1)]))])) (sRet (mC (.bool false))) sNx)
    (sRet (mOp gAll [(oE (mLc [2, 3] (mOpL gZip [(oE (mRd 0)), (oE (mRd 1))]) (setT [(setN 2), (setN 3)]) mYes (mPeek c_self [(oS 2), (oS 3)])))])))) sNx)
    (sSeq (sIf (mOr (mTst (mOp gNe [(oE (mIsi [.bool] (oS 0))), (oE (mIsi [.bool] (oS 1)))])) (mTst (mOp gNe [(oE (mIsi [.str] (oS 0))), (oE (mIsi [.str] (oS 1)))]))) (sRet (mC (.bool false))) sNx)
    (sRet (mAndV (mOp gEq [(oE (mIsi [.int] (oS 0))), (oE (mIsi [.int] (oS 1)))]) (mOp gEq [(oS 0), (oS 1)])))))
noncomputable def sem_Lsame_1a4f : Nat → Sem
  | 0 => fun _ => none
  | k + 1 => defSem 2 4 (b_Lsame_1a4f (sem_Lsame_1a4f k))
/-- is_whole(thing): slots 0:thing -/
noncomputable def b_is_whole_637d : S :=
    (sRet (mAndV (mIsi [.int] (oS 0)) (mNotV (mIsi [.bool] (oS 0)))))
noncomputable def sem_is_whole_637d : Sem := defSem 1 1 b_is_whole_637d
end Lw
end

section
namespace Lw
open PySem DL
/-- is_row(thing): slots 0:thing -/
noncomputable def b_is_row_acca : S :=
    (sRet (mIsi [.list, .tuple] (oS 0)))
noncomputable def sem_is_row_acca : Sem := defSem 1 1 b_is_row_acca
/-- are_whole(things): slots 0:things 1:thing -/
noncomputable def b_are_whole_5b5d : S :=
    (sRet (mOp gAll [(oE (mLc [1] (mRow (mRd 0)) (setN 1) mYes (mCall sem_is_whole_637d [(oS 1)])))]))
noncomputable def sem_are_whole_5b5d : Sem := defSem 1 2 b_are_whole_5b5d
end Lw
end

section
namespace DL
open PySem
end DL
end

section
namespace DL
open PySem
end DL
end

section
namespace Lw
open PySem DL
end Lw
end

section
namespace Lw
open PySem DL
end Lw
end

section
namespace DL
open PySem
end DL
end

section
namespace Lw
open PySem DL
end Lw
end

section
namespace Lw
open PySem DL
end Lw
end

section
namespace Lw
open PySem DL
end Lw
end

section
namespace Lw
open PySem DL
end Lw
end

section
namespace Lw
open PySem DL
end Lw
end

section
namespace Lw
open PySem DL
end Lw
end

section
namespace DL
open PySem
end DL
end

section
namespace DL
open PySem
def mThawA (i : Nat) (m : M RV) : M RV := fun r => match r[i]? with
  | some (.own _ (.ll rows)) => match m (hideR r i (rows.map .list)) with
    | some (.ok v, _) => if lfreeRV v = true then some (.ok v, r) else none
    | _ => none
  | _ => none
end DL
end

section
namespace Lw
open PySem DL
/-- is_tie(thing, many): slots 0:thing 1:many -/
noncomputable def b_is_tie_8dfc : S :=
    (sSeq (sIf (mOr (mNot (mTst (mCall sem_is_row_acca [(oS 0)]))) (mOr (mTst (mOp gNe [(oE (mOp gLen [(oS 0)])), (oE (mC (.int 2)))])) (mNot (mTst (mCall sem_are_whole_5b5d [(oS 0)]))))) (sRet (mC (.bool false))) sNx)
    (sRet (mAndV (mOp gLe [(oE (mC (.int 0))), (oE (mOp gMinL [(oS 0)]))]) (mOp gLt [(oE (mOp gMaxL [(oS 0)])), (oS 1)]))))
noncomputable def sem_is_tie_8dfc : Sem := defSem 2 2 b_is_tie_8dfc
/-- web_of(many, ties): slots 0:many 1:ties 2:tie -/
noncomputable def b_web_of_ac01R : S :=
    (sSeq (sIf (mOr (mNot (mTst (mCall sem_is_whole_637d [(oS 0)]))) (mOr (mTst (mOp gLt [(oS 0), (oE (mC (.int 1)))])) (mTst (mOp gGt [(oS 0), (oE (mC (.int 25)))])))) (sRaise "NoWeb") sNx)
    (sSeq (sIf (mOr (mNot (mTst (mCall sem_is_row_acca [(oS 1)]))) (mTst (mOp gGt [(oE (mOp gLen [(oS 1)])), (oE (mC (.int 24)))]))) (sRaise "NoWeb") sNx)
    (sSeq (sFor (mRow (mRd 1)) (setN 2) (sIf (mNot (mTst (mCall sem_is_tie_8dfc [(oS 2), (oS 0)]))) (sRaise "NoWeb") sNx))
    (sRet (mOp gTup [(oE (mRd 0)), (oE (mOp gTuple [(oE (mLc [2] (mRow (mRd 1)) (setN 2) mYes (mOp gTup [(oE (mOp gIx [(oS 2), (oE (mC (.int 0)))])), (oE (mOp gIx [(oS 2), (oE (mC (.int 1)))]))])))]))])))))
noncomputable def sem_web_of_ac01R : Sem := defSem 2 3 b_web_of_ac01R
/-- _law_word, asked of a NoWeb -/
def b_WNoWeb_1ef6 : S :=
    (sSeq (sSet 1 (mOp gLst [(oE (mOp gTup [(oE (mC (.str (Str.ofString "apart")))), (oE (mC (.bool false)))])), (oE (mOp gTup [(oE (mC (.str (Str.ofString "end")))), (oE (mC (.bool false)))])), (oE (mOp gTup [(oE (mC (.str (Str.ofString "name")))), (oE (mC (.bool false)))]))])) (sSeq (sSet 1 (mOp gAdd [(oS 1), (oE (mOp gLst [(oE (mOp gTup [(oE (mC (.str (Str.ofString "number")))), (oE (mC (.bool false)))])), (oE (mOp gTup [(oE (mC (.str (Str.ofString "order")))), (oE (mC (.bool false)))]))]))])) (sSeq (sSet 1 (mOp gAdd [(oS 1), (oE (mOp gLst [(oE (mOp gTup [(oE (mC (.str (Str.ofString "paper")))), (oE (mC (.bool false)))])), (oE (mOp gTup [(oE (mC (.str (Str.ofString "place")))), (oE (mC (.bool false)))]))]))])) (sSeq (sSet 1 (mOp gAdd [(oS 1), (oE (mOp gLst [(oE (mOp gTup [(oE (mC (.str (Str.ofString "ring")))), (oE (mC (.bool false)))])), (oE (mOp gTup [(oE (mC (.str (Str.ofString "row")))), (oE (mC (.bool false)))])), (oE (mOp gTup [(oE (mC (.str (Str.ofString "table")))), (oE (mC (.bool false)))]))]))])) (sSeq (sSet 1 (mOp gAdd [(oS 1), (oE (mOp gLst [(oE (mOp gTup [(oE (mC (.str (Str.ofString "text")))), (oE (mC (.bool false)))])), (oE (mOp gTup [(oE (mC (.str (Str.ofString "tie")))), (oE (mC (.bool false)))])), (oE (mOp gTup [(oE (mC (.str (Str.ofString "web")))), (oE (mC (.bool true)))]))]))])) (sSeq (sSet 1 (mOp gAdd [(oS 1), (oE (mOp gLst [(oE (mOp gTup [(oE (mC (.str (Str.ofString "great")))), (oE (mC (.bool false)))])), (oE (mOp gTup [(oE (mC (.str (Str.ofString "many")))), (oE (mC (.bool false)))]))]))])) (sSeq (sSet 2 (mLc [3, 4] (mRowL (mRd 1)) (setT [(setN 3), (setN 4)]) (mTst (mRd 4)) (mRd 3))) (sSeq (sIf (mAnd (mTst (mOp gEq [(oE (mOp gLen [(oS 2)])), (oE (mC (.int 1)))])) (mTst (mC (.bool true)))) (sRet (mOp gIx [(oS 2), (oE (mC (.int 0)))])) sNx) (sRet (mC (.str (Str.ofString ""))))))))))))
def sem_WNoWeb_1ef6 : Sem := defSem 0 5 b_WNoWeb_1ef6
/-- _law_handed(_law_pen_here, _law_web_here): slots 0:_law_pen_here 1:_law_web_here 2:_law_ties 3:_law_tie -/
noncomputable def b_Lhanded_ab27 : S :=
    (sSeq (sSet 2 (mLc [3] (mRow (mOp gIx [(oS 1), (oE (mC (.int 1)))])) (setN 3) mYes (mOp gIx [(oE (mOp gLst [(oE (mOp gList [(oS 3)])), (oE (mRd 3))])), (oE (mCall sem_Ldraw_de5b [(oS 0), (oE (mC (.int 2)))]))])))
    (sRet (mOp gIx [(oE (mOp gLst [(oE (mRd 2)), (oE (mOp gTuple [(oS 2)]))])), (oE (mCall sem_Ldraw_de5b [(oS 0), (oE (mC (.int 2)))]))])))
noncomputable def sem_Lhanded_ab27 : Sem := defSem 2 4 b_Lhanded_ab27
/-- _law_spoiled(_law_pen_here, _law_web_here): slots 0:_law_pen_here 1:_law_web_here 2:_law_far 3:_law_way 4:_law_numbers 5:_law_rows 6:_law_single 7:_law_places 8:_law_at 9:_law_tie 10:_law_found 11:_law_many 12:_law_ties -/
noncomputable def b_Lspoiled_a8cc : S :=
    (sSeq (sUnp (mRd 1) (setT [(setN 11), (setN 12)]))
    (sSeq (sSet 2 (mCall sem_Ldraw_de5b [(oS 0), (oE (mOp gPow [(oE (mC (.int 10))), (oE (mC (.int 30)))]))]))
    (sSeq (sSet 3 (mCall sem_Ldraw_de5b [(oS 0), (oE (mC (.int 5)))]))
    (sSeq (sSet 4 (mOp gLst [(oE (mC (.int 0))), (oE (mC (.int 26))), (oE (mOp gSub [(oE (mC (.int 0))), (oE (mC (.int 1)))])), (oE (mOp gAdd [(oE (mC (.int 26))), (oS 2)])), (oE (mOp gSub [(oE (mC (.int 0))), (oS 11)])), (oE (mOp gSub [(oE (mC (.int 0))), (oS 2)])), (oE (mC (.bool true))), (oE (mC (.bool false))), (oE (mC .none)), (oE (mOp gStrI [(oS 11)])), (oE (mOp gLst [(oE (mRd 11))])), (oE (mOp gTup [(oE (mRd 11))])), (oE mE0), (oE (mOp gPow [(oE (mC (.int 10))), (oE (mC (.int 59)))]))]))
    (sSeq (sSet 5 (mOp gLst [(oE (mC .none)), (oE (mC (.bool true))), (oE (mC (.int 7))), (oE (mC (.str (Str.ofString "")))), (oE (mC (.str (Str.ofString "00")))), (oE mE0), (oE (mFzK (mDisp1 (oE (mC (.int 0))) (mOp gTup [(oE (mC (.int 0))), (oE (mC (.int 0)))])))), (oE (mOp gAdd [(oE (mOp gList [(oS 12)])), (oE (mOp gMul [(oE (mOp gLst [(oE (mOp gTup [(oE (mC (.int 0))), (oE (mC (.int 0)))]))])), (oE (mOp gSub [(oE (mC (.int 25))), (oE (mOp gLen [(oS 12)]))]))]))])), (oE (mOp gLst [(oE (mC (.int 0))), (oE (mC (.int 0)))])), (oE (mOp gTup [(oE (mOp gTup [(oE (mC (.int 0))), (oE (mC (.int 0)))])), (oE (mC (.int 0)))]))]))
    (sSeq (sSet 5 (mOp gAdd [(oS 5), (oE (mOp gLst [(oE (mOp gAdd [(oE (mOp gList [(oS 12)])), (oE (mOp gMul [(oE (mOp gLst [(oE (mOp gTup [(oE (mOp gSub [(oS 11), (oE (mC (.int 1)))])), (oE (mC (.int 0)))]))])), (oE (mC (.int 25)))]))])), (oE (mOp gTup [(oE (mOp gLst []))])), (oE (mOp gTup [(oE (mC .none))]))]))]))
    (sSeq (sSet 6 (mOp gLst [(oE (mC .none)), (oE (mC (.int 3))), (oE (mOp gTup [(oE (mC (.int 0)))])), (oE (mOp gTup [(oE (mC (.int 0))), (oE (mC (.int 0))), (oE (mC (.int 0)))])), (oE (mOp gLst [])), (oE (mC (.str (Str.ofString "00")))), (oE mE0), (oE (mC (.bool true))), (oE (mOp gTup [(oE (mOp gTup [(oE (mC (.int 0))), (oE (mC (.int 0)))]))])), (oE (mDik [(0, 0), (1, 0)])), (oE (mOp gTup [(oE (mC (.int 0))), (oE (mOp gTup [(oE (mC (.int 0)))]))])), (oE (mOp gLst [(oE (mOp gLst [(oE (mC (.int 0))), (oE (mC (.int 0)))]))]))]))
    (sSeq (sSet 7 (mOp gLst [(oE (mRd 11)), (oE (mOp gSub [(oE (mC (.int 0))), (oE (mC (.int 1)))])), (oE (mOp gAdd [(oS 11), (oS 2)])), (oE (mOp gSub [(oE (mOp gSub [(oE (mC (.int 0))), (oE (mC (.int 1)))])), (oS 2)])), (oE (mC (.bool true))), (oE (mC (.bool false))), (oE (mC .none)), (oE (mC (.str (Str.ofString "0")))), (oE (mOp gLst [(oE (mC (.int 0)))])), (oE (mOp gTup [(oE (mC (.int 0)))])), (oE mE0), (oE (mOp gAdd [(oS 11), (oE (mC (.int 1)))]))]))
    (sSeq (sIf (mTst (mOp gEq [(oS 3), (oE (mC (.int 0)))])) (sRet (mOp gTup [(oE (mOp gIx [(oS 4), (oE (mCall sem_Ldraw_de5b [(oS 0), (oE (mC (.int 14)))]))])), (oE (mCall sem_Lhanded_ab27 [(oS 0), (oS 1)]))])) sNx)
    (sSeq (sIf (mOr (mTst (mOp gEq [(oS 3), (oE (mC (.int 1)))])) (mTst (mOp gEq [(oS 12), (oE (mOp gTup []))]))) (sRet (mOp gTup [(oE (mOp gIx [(oE (mOp gLst [(oE (mRd 11)), (oE (mOp gIx [(oS 4), (oE (mCall sem_Ldraw_de5b [(oS 0), (oE (mC (.int 14)))]))]))])), (oE (mCall sem_Ldraw_de5b [(oS 0), (oE (mC (.int 2)))]))])), (oE (mOp gIx [(oS 5), (oE (mCall sem_Ldraw_de5b [(oS 0), (oE (mC (.int 13)))]))]))])) sNx)
    (sSeq (sSet 8 (mCall sem_Ldraw_de5b [(oS 0), (oE (mOp gLen [(oS 12)]))]))
    (sSeq (sSet 9 (mOp gIx [(oS 6), (oE (mCall sem_Ldraw_de5b [(oS 0), (oE (mC (.int 12)))]))]))
    (sSeq (sIf (mTst (mOp gGt [(oS 3), (oE (mC (.int 2)))])) (sSeq (sSet 9 (mOp gList [(oE (mOp gIx [(oS 12), (oS 8)]))]))
    (sSeq (sSub 9 (mOp gIx [(oS 7), (oE (mCall sem_Ldraw_de5b [(oS 0), (oE (mC (.int 12)))]))]) (oE (mCall sem_Ldraw_de5b [(oS 0), (oE (mC (.int 2)))])))
    (sSet 9 (mOp gIx [(oE (mOp gLst [(oE (mRd 9)), (oE (mOp gTuple [(oS 9)]))])), (oE (mCall sem_Ldraw_de5b [(oS 0), (oE (mC (.int 2)))]))])))) sNx)
    (sSeq (sSet 10 (mOp gList [(oE (mCall sem_Lhanded_ab27 [(oS 0), (oS 1)]))]))
    (sSeq (sSub 10 (mRd 9) (oS 8))
    (sRet (mOp gTup [(oE (mRd 11)), (oE (mOp gIx [(oE (mOp gLst [(oE (mRd 10)), (oE (mOp gTuple [(oS 10)]))])), (oE (mCall sem_Ldraw_de5b [(oS 0), (oE (mC (.int 2)))]))]))])))))))))))))))))
noncomputable def sem_Lspoiled_a8cc : Sem := defSem 2 13 b_Lspoiled_a8cc
/-- law(_law_script): slots 0:_law_script 1:_law_pen_here 2:_law_web_here 3:_law_handed_here 4:_law_kept 5:_law_found 6:_law_k 7:_law_again 8:_law_tie 9:_law_many 10:_law_ties 11:#tab -/
noncomputable def b_law_855cR (P_tab : Nat) : S :=
    (sSeq (sSet 1 (mCall sem_Lpen_3d2f [(oS 0)]))
    (sSeq (sSet 2 (mCall sem_Lweb_0350 [(oS 1), (oE (mC (.int 25))), (oE (mC (.int 24)))]))
    (sSeq (sSet 3 (mCall sem_Lhanded_ab27 [(oS 1), (oS 2)]))
    (sSeq (sSet 4 (mOp gReprT [(oS 3)]))
    (sSeq (sSet 5 (mCall sem_web_of_ac01R [(oE (mOp gIx [(oS 2), (oE (mC (.int 0)))])), (oS 3)]))
    (sSeq (sIf (mOr (mNot (mTst (mPeek (sem_Lsame_1a4f 6) [(oS 5), (oS 2)]))) (mTst (mOp gNeS [(oE (mOp gReprT [(oS 3)])), (oS 4)]))) (sRet (mC (.bool false))) sNx)
    (sSeq (sFor (mOpL gRng1 [(oE (mC (.int 9)))]) (setN 6) (sSeq (sUnp (mCall sem_Lspoiled_a8cc [(oS 1), (oS 2)]) (setT [(setN 9), (setN 10)]))
    (sSeq (sSet 4 (mOp gReprT [(oS 10)]))
    (sIf (mOr (mTst (mOp gNe [(oE (mTold 11 P_tab (("law" : Str) ++ ".<locals>." ++ "<lambda>") (mCall sem_web_of_ac01R [(oS 9), (oS 10)]) ["NoWeb"] (fun _ => Str.ofString "web"))), (oE (mOp gTup [(oE (mC (.str (Str.ofString "refused")))), (oE (mC (.str (Str.ofString "web"))))]))])) (mTst (mOp gNeS [(oE (mOp gReprT [(oS 10)])), (oS 4)]))) (sRet (mC (.bool false))) sNx))))
    (sSeq (sSet 7 (mLcL [8] (mRow (mOp gIx [(oS 2), (oE (mC (.int 1)))])) (setN 8) mYes (mOp gList [(oS 8)])))
    (sSeq (sSet 5 (mThawA 7 (mCall sem_web_of_ac01R [(oE (mOp gIx [(oS 2), (oE (mC (.int 0)))])), (oS 7)])))
    (sSeq (sForA 7 8 (sDrop (mMut gAppend 8 [(oE (mC (.int 0)))])))
    (sSeq (sDrop (mClrL 7))
    (sRet (mAndV (mPeek (sem_Lsame_1a4f 6) [(oS 5), (oS 2)]) (mPeek (sem_Lsame_1a4f 6) [(oE (mCall sem_web_of_ac01R [(oE (mOp gIx [(oS 2), (oE (mC (.int 0)))])), (oE (mOp gList [(oE (mOp gIx [(oS 2), (oE (mC (.int 1)))]))]))])), (oS 2)]))))))))))))))
noncomputable def sem_law_855cR (P_tab : Nat) : Sem := defSem 1 12 (sSeq (sTab 11 P_tab (("law" : Str) ++ ".<locals>." ++ "<lambda>")) (b_law_855cR P_tab))
end Lw
end

section
namespace Lw
open PySem DL
/-- a pen: cells, a count, digits -/
structure Pen (n : Nat) (p : List D) : Prop where
  ex : ∃ (cs : List Int) (a g : Int), p = [.list (cs.map .int), .int a, .int g] ∧ 0 ≤ a ∧ a ≤ n ∧ 0 ≤ g ∧ cs.length ≤ 63
theorem ixP_map {cs : List Int} {i : Int} (h0 : 0 ≤ i) (h1 : i < cs.length) : ∃ c, ixP (cs.map .int) i = some (.int c) := by
  refine ⟨cs[i.toNat]'(by omega), ixP_pos h0 ?_⟩
  rw [List.getElem?_map, List.getElem?_eq_getElem (by omega)]
  rfl
set_option maxHeartbeats 1000000 in
theorem draw_ok {n : Nat} {p : List D} {m : Int} (hp : Pen n p) (hn : n ≤ 1000000) (hm : 1 ≤ m ∧ m ≤ 1000000) :
    Oks sem_Ldraw_de5b [.ow (.lst p), .fz (.int m)] fun v ys => ∃ r p', v = .ok (.val (.int r)) ∧ ys = [.ow (.lst p'), .fz (.int m)] ∧ 0 ≤ r ∧ r < m ∧ Pen (n + 1) p' := by
  obtain ⟨cs, a, g, rfl, ha, hn2, hg, hcs⟩ := hp.ex
  refine oks_def rfl ?_
  have m0 : 0 < m := by omega
  have pow : (10 : Int) ^ 18 = 1000000000000000000 := by decide
  have mm : SmD m := smD_of (by omega)
  have r0 : ∀ x : Int, 0 ≤ x % m := fun x => Int.emod_nonneg _ (by omega)
  have r1 : ∀ x : Int, x % m < m := fun x => Int.emod_lt_of_pos _ m0
  by_cases hg0 : 0 < g
  · simp [b_Ldraw_de5b, hg0, -getElem?_pos, -getElem?_neg, List.getElem?_cons_zero, List.getElem?_cons_succ, m0, mm, r0, r1]
    exact ⟨cs, a, g / m, rfl, ha, by omega, Int.ediv_nonneg hg (by omega), hcs⟩
  · have s1 : SmM 69621 a := smM_of (by omega) (by omega)
    have s2 : ∀ c : Int, SmM (c % 2147483647 + 69621 * a + 13) 48271 := fun c => smM_of (by omega) (by omega)
    have key : ∀ x : Int, 0 ≤ x % 2147483629 ∧ x % 2147483629 < 2147483629 := fun x => by omega
    have s3 : ∀ x : Int, SmM (x % 2147483629) (x % 2147483629) := fun c => smM_of (by omega) (by omega)
    have s4 : ∀ x : Int, SmM 40692 (x % 2147483629) := fun c => smM_of (by omega) (by omega)
    have s5 : ∀ x : Int, SmM (x % 2147483587) 16807 := fun c => smM_of (by omega) (by omega)
    have s6 : SmD 32 := smD_of (by omega)
    have pen1 : ∀ g', 0 ≤ g' → Pen (n + 1) [.list (cs.map .int), .int (a + 1), .int g'] := fun g' h => ⟨cs, a + 1, g', rfl, by omega, by omega, h, hcs⟩
    by_cases hl : 0 < cs.length
    · obtain ⟨c, hc⟩ := ixP_map (cs := cs) (i := a % cs.length) (Int.emod_nonneg _ (by omega)) (Int.emod_lt_of_pos _ (by omega))
      by_cases h2 : a < cs.length ∧ 10 ^ 18 ≤ (if c < 0 then -c else c)
      · have h2' := h2.2
        rw [pow] at h2'
        simp [b_Ldraw_de5b, hg0, -getElem?_pos, -getElem?_neg, List.getElem?_cons_zero, List.getElem?_cons_succ, m0, mm, r0, r1, s1, s2, s3, s4, s5, s6, hl, hc, h2.1, h2', pow]
        exact pen1 _ (Int.ediv_nonneg (by omega) (by omega))
      · by_cases h3 : a < cs.length
        · have h2' : ¬ 1000000000000000000 ≤ (if c < 0 then -c else c) := fun h => h2 ⟨h3, by rw [pow]; exact h⟩
          simp [b_Ldraw_de5b, hg0, -getElem?_pos, -getElem?_neg, List.getElem?_cons_zero, List.getElem?_cons_succ, m0, mm, r0, r1, s1, s2, s3, s4, s5, s6, hl, hc, h3, h2', pow]
          exact pen1 _ hg
        · simp [b_Ldraw_de5b, hg0, -getElem?_pos, -getElem?_neg, List.getElem?_cons_zero, List.getElem?_cons_succ, m0, mm, r0, r1, s1, s2, s3, s4, s5, s6, hl, hc, h3]
          exact pen1 _ hg
    · have hl2 : cs.length = 0 := by omega
      have h3 : ¬ a < 0 := by omega
      have s2' : SmM (11 + 69621 * a + 13) 48271 := smM_of (by omega) (by omega)
      simp [b_Ldraw_de5b, hg0, -getElem?_pos, -getElem?_neg, List.getElem?_cons_zero, List.getElem?_cons_succ, m0, mm, r0, r1, s1, s2, s2', s3, s4, s5, s6, hl, hl2, h3]
      exact pen1 _ hg
end Lw
end

section
namespace Lw
open PySem DL
theorem cut63 {ns : List Int} (h : ns.length ≤ 63) : cutD ns none (some 63) = ns := by
  have : sIxD ns.length ns.length (some 63) = ns.length := by
    unfold sIxD
    simp
    omega
  unfold cutD
  rw [this]
  simp [sIxD]
theorem pen_ok {ns : List Int} (h : ns.length ≤ 63) : Oks sem_Lpen_3d2f [.fz (.dict ((.none, .none) :: ns.map fun n => (.int n, .none)))] fun v ys => ∃ p, v = .ok (.new (.lst p)) ∧ ys = [.fz (.dict ((.none, .none) :: ns.map fun n => (.int n, .none)))] ∧ Pen 0 p := by
  refine oks_def rfl ?_
  simp [b_Lpen_3d2f, -getElem?_pos, -getElem?_neg, List.getElem?_cons_zero, List.getElem?_cons_succ, cut63 h, anyPin]
  refine lcK_map id (fun d _ => ?_) (by simp [lineD]; omega) ?_
  · simp [-getElem?_pos, -getElem?_neg, List.getElem?_cons_zero, List.getElem?_cons_succ]
  · simp
    exact ⟨ns, 0, 0, rfl, by omega, by omega, by omega, h⟩
end Lw
end

section
namespace Lw
open PySem DL
def tieD (t : Int × Int) : D := .tuple [.int t.1, .int t.2]
def webD (m : Int) (ts : List (Int × Int)) : D := .tuple [.int m, .tuple (ts.map tieD)]
def TiesOk (m : Int) (ts : List (Int × Int)) : Prop := ∀ t ∈ ts, (0 ≤ t.1 ∧ t.1 < m) ∧ 0 ≤ t.2 ∧ t.2 < m
structure Web (N T : Nat) (m : Int) (ts : List (Int × Int)) : Prop where
  m1 : 1 ≤ m
  mN : m ≤ N
  len : ts.length ≤ T
  ok : TiesOk m ts
/-- the slots in the loop of _law_web -/
def WebI (n : Nat) (pl ti m way ct : Int) (k : Nat) (r : Ro) : Prop := ∃ p ts x7 x8 x9, r = [.own true (.lst p), .frz false (.int pl), .frz false (.int ti), .frz false (.int m), .frz false (.int way), .frz false (.int ct), .own false (.lst (ts.map tieD)), x7, x8, x9]
  ∧ Pen (n + 2 * k) p ∧ ts.length = k ∧ TiesOk m ts ∧ Fr x7 ∧ Fr x8 ∧ Fr x9
theorem TiesOk.snoc {m : Int} {ts : List (Int × Int)} {t : Int × Int} (h : TiesOk m ts) (ht : (0 ≤ t.1 ∧ t.1 < m) ∧ 0 ≤ t.2 ∧ t.2 < m) : TiesOk m (ts ++ [t]) := fun u hu => by
  rcases List.mem_append.mp hu with h1 | h1
  · exact h u h1
  · rw [List.mem_singleton.mp h1]; exact ht
noncomputable def webBody : S := sSeq (sPar 8 9 (mCall sem_Ldraw_de5b [(oS 0), (oS 3)]) (mCall sem_Ldraw_de5b [(oS 0), (oS 3)]))
    (sSeq (sIf (mTst (mOp gEq [(oS 4), (oE (mC (.int 1)))])) (sPar 8 9 (mOp gMod [(oS 7), (oS 3)]) (mOp gMod [(oE (mOp gAdd [(oS 7), (oE (mC (.int 1)))])), (oS 3)])) sNx)
    (sSeq (sIf (mTst (mOp gEq [(oS 4), (oE (mC (.int 2)))])) (sSet 8 (mC (.int 0))) sNx)
    (sSeq (sIf (mTst (mOp gEq [(oS 4), (oE (mC (.int 3)))])) (sSet 9 (mOp gAdd [(oE (mOp gMod [(oS 8), (oE (mC (.int 2)))])), (oE (mOp gMul [(oE (mOp gDiv [(oS 9), (oE (mC (.int 2)))])), (oE (mC (.int 2)))]))])) sNx)
    (sSeq (sIf (mAnd (mTst (mOp gEq [(oS 4), (oE (mC (.int 4)))])) (mTst (mOp gEq [(oE (mOp gMod [(oS 9), (oE (mC (.int 2)))])), (oE (mC (.int 0)))]))) (sSet 9 (mRd 8)) sNx)
    (sDrop (mMut gAppend 6 [(oE (mOp gTup [(oE (mRd 8)), (oE (mOp gMin2 [(oS 9), (oE (mOp gSub [(oS 3), (oE (mC (.int 1)))]))]))]))]))))))
set_option maxHeartbeats 4000000 in
theorem web_body {n : Nat} {pl ti m way ct : Int} {Q : SO → Ro → Prop} (hn : n ≤ 100000) (hm : 1 ≤ m ∧ m ≤ 1000) (hw : 0 ≤ way ∧ way < 6) {k : Nat} {r : Ro} (hk : k ≤ 1000) (h : WebI n pl ti m way ct k r) :
    W (setN 7 (.int k)) r (nxP webBody (loopP (WebI n pl ti m way ct (k + 1)) Q)) := by
  obtain ⟨p, ts, x7, x8, x9, rfl, hp, hl, ht, h7, h8, h9⟩ := h
  obtain ⟨o1, y1, e1, a, p1, rfl, rfl, a0, a1, hp1⟩ := draw_ok hp (by omega) (m := m) (by omega)
  obtain ⟨o2, y2, e2, b, p2, rfl, rfl, b0, b1, hp2⟩ := draw_ok hp1 (by omega) (m := m) (by omega)
  have hp3 : Pen (n + 2 * (k + 1)) p2 := hp2
  have m0 : 0 < m := by omega
  have lb : (lineD : Nat) = 16777216 := rfl
  have hk2 : ts.length < lineD := by unfold lineD; omega
  have fin : ∀ a b : Int, 0 ≤ a → a < m → 0 ≤ b → WebI n pl ti m way ct (k + 1) [.own true (.lst p2), .frz false (.int pl), .frz false (.int ti), .frz false (.int m), .frz false (.int way), .frz false (.int ct), .own false (.lst (ts.map tieD ++ [.tuple [.int a, .int (if m - 1 < b then m - 1 else b)]])), .frz false (.int k), .frz false (.int a), .frz false (.int b)] := fun a b h1 h2 h3 =>
    ⟨p2, ts ++ [(a, if m - 1 < b then m - 1 else b)], .frz false (.int k), .frz false (.int a), .frz false (.int b), by simp [tieD], hp3, by simp [hl], ht.snoc ⟨⟨h1, h2⟩, by dsimp only; split <;> omega, by dsimp only; split <;> omega⟩, .frz, .frz, .frz⟩
  have s1 : SmD 2 := smD_of (by omega)
  have s2 : SmM (b / 2) 2 := smM_of (by omega) (by omega)
  have ways : way = 0 ∨ way = 1 ∨ way = 2 ∨ way = 3 ∨ way = 4 ∨ way = 5 := by omega
  rcases ways with rfl | rfl | rfl | rfl | rfl | rfl
  · simp [webBody, -getElem?_pos, -getElem?_neg, List.getElem?_cons_zero, List.getElem?_cons_succ, h7.pin, h8.pin, h9.pin, h7.al, h8.al, h9.al, e1, e2, m0, hk2]
    exact fin a b a0 a1 b0
  · simp [webBody, -getElem?_pos, -getElem?_neg, List.getElem?_cons_zero, List.getElem?_cons_succ, h7.pin, h8.pin, h9.pin, h7.al, h8.al, h9.al, e1, e2, m0, hk2]
    exact fin (k % m) ((k + 1) % m) (Int.emod_nonneg _ (by omega)) (Int.emod_lt_of_pos _ m0) (Int.emod_nonneg _ (by omega))
  · simp [webBody, -getElem?_pos, -getElem?_neg, List.getElem?_cons_zero, List.getElem?_cons_succ, h7.pin, h8.pin, h9.pin, h7.al, h8.al, h9.al, e1, e2, m0, hk2]
    exact fin 0 b (by omega) (by omega) b0
  · simp [webBody, -getElem?_pos, -getElem?_neg, List.getElem?_cons_zero, List.getElem?_cons_succ, h7.pin, h8.pin, h9.pin, h7.al, h8.al, h9.al, e1, e2, m0, hk2, s1, s2]
    exact fin a (a % 2 + b / 2 * 2) a0 a1 (by omega)
  · by_cases hb : b % 2 = 0
    · simp [webBody, -getElem?_pos, -getElem?_neg, List.getElem?_cons_zero, List.getElem?_cons_succ, h7.pin, h8.pin, h9.pin, h7.al, h8.al, h9.al, e1, e2, m0, hk2, hb]
      exact fin a a a0 a1 a0
    · simp [webBody, -getElem?_pos, -getElem?_neg, List.getElem?_cons_zero, List.getElem?_cons_succ, h7.pin, h8.pin, h9.pin, h7.al, h8.al, h9.al, e1, e2, m0, hk2, hb]
      exact fin a b a0 a1 b0
  · simp [webBody, -getElem?_pos, -getElem?_neg, List.getElem?_cons_zero, List.getElem?_cons_succ, h7.pin, h8.pin, h9.pin, h7.al, h8.al, h9.al, e1, e2, m0, hk2]
    exact fin a b a0 a1 b0
end Lw
end

section
namespace Lw
open PySem DL
theorem web_tail {n : Nat} {pl ti m way ct : Int} {x7 x8 x9 : Sl} {p p0 : List D} (hn : n ≤ 90000) (hm : 1 ≤ m ∧ m ≤ 1000) (hw : 0 ≤ way ∧ way < 6) (hc : 0 ≤ ct ∧ ct ≤ 1000) (hp : Pen n p) (h7 : Fr x7) (h8 : Fr x8) (h9 : Fr x9)
    {P : EO RV → List Rs → Prop} (hP : ∀ ts p', ts.length = ct → TiesOk m ts → Pen (n + 2 * ct.toNat) p' → P (.ok (.val (webD m ts))) [.ow (.lst p'), .fz (.int pl), .fz (.int ti)]) :
    W (sFor (mOpL gRng1 [(oS 5)]) (setN 7) webBody) [.own true (.lst p), .frz false (.int pl), .frz false (.int ti), .frz false (.int m), .frz false (.int way), .frz false (.int ct), .own false (.lst []), x7, x8, x9]
      (thenP (sRet (mOp gTup [(oE (mRd 3)), (oE (mOp gTuple [(oS 6)]))])) (retP [.ow (.lst p0), .fz (.int pl), .fz (.int ti)] P)) := by
  have o1 : -4611686018427387904 ≤ ct := by omega
  have o2 : ct < 4611686018427387904 := by omega
  simp [-getElem?_pos, -getElem?_neg, List.getElem?_cons_zero, List.getElem?_cons_succ, o1, o2]
  refine forS_inv (WebI n pl ti m way ct) (rng 0 ct) 0 _ ?_ (fun k d r hd h => ?_) (fun r h => ?_)
  · exact ⟨p, [], x7, x8, x9, rfl, hp, rfl, fun _ h => (nomatch h), h7, h8, h9⟩
  · obtain ⟨rfl, hk⟩ := rng0_get hd
    rw [Nat.zero_add] at h ⊢
    exact web_body (by omega) hm hw (by omega) h
  · obtain ⟨p', ts, x7, x8, x9, rfl, hp, hl, ht, h7, h8, h9⟩ := h
    rw [rng0_len] at hl hp
    rw [Nat.zero_add] at hl hp
    have := hP ts p' (by omega) ht hp
    simp [-getElem?_pos, -getElem?_neg, List.getElem?_cons_zero, List.getElem?_cons_succ]
    exact this
set_option maxHeartbeats 4000000 in
theorem web_ok {n : Nat} {pl ti : Int} {p : List D} (hp : Pen n p) (hn : n ≤ 80000) (hpl : 1 ≤ pl ∧ pl ≤ 1000) (hti : 0 ≤ ti ∧ ti ≤ 999) :
    Oks sem_Lweb_0350 [.ow (.lst p), .fz (.int pl), .fz (.int ti)] fun v ys => ∃ m ts p', v = .ok (.val (webD m ts)) ∧ ys = [.ow (.lst p'), .fz (.int pl), .fz (.int ti)] ∧ Web pl.toNat ti.toNat m ts ∧ Pen (n + 2003) p' := by
  obtain ⟨o1, y1, e1, a, p1, rfl, rfl, a0, a1, hp1⟩ := draw_ok hp (by omega) (m := pl) (by omega)
  obtain ⟨o2, y2, e2, w, p2, rfl, rfl, w0, w1, hp2⟩ := draw_ok hp1 (by omega) (m := 6) (by omega)
  obtain ⟨o3, y3, e3, c, p3, rfl, rfl, c0, c1, hp3⟩ := draw_ok hp2 (by omega) (m := ti + 1) (by omega)
  have mono : ∀ {a b : Nat} {q : List D}, a ≤ b → Pen a q → Pen b q := fun h ⟨cs, a, g, e, h1, h2, h3, h4⟩ => ⟨cs, a, g, e, h1, by omega, h3, h4⟩
  refine oks_def rfl ?_
  by_cases hw : w = 5
  · subst hw
    simp [b_Lweb_0350, -W_for, -getElem?_pos, -getElem?_neg, List.getElem?_cons_zero, List.getElem?_cons_succ, e1, e2, e3]
    refine web_tail (n := n + 3) (by omega) (by omega) (by omega) (by omega) hp3 .non .non .non fun ts p' h1 h2 h3 => ?_
    exact ⟨pl, ts, rfl, p', rfl, ⟨by omega, by omega, by omega, h2⟩, mono (by omega) h3⟩
  · simp [b_Lweb_0350, -W_for, -getElem?_pos, -getElem?_neg, List.getElem?_cons_zero, List.getElem?_cons_succ, e1, e2, e3, hw]
    refine web_tail (n := n + 3) (by omega) (by omega) (by omega) (by omega) hp3 .non .non .non fun ts p' h1 h2 h3 => ?_
    exact ⟨1 + a, ts, rfl, p', rfl, ⟨by omega, by omega, by omega, h2⟩, mono (by omega) h3⟩
end Lw
end

section
namespace Lw
open PySem DL
/-- the place of an end -/
def plc (ts : List (Int × Int)) (e : Nat) : Int := match ts[e / 2]? with
  | some t => if e % 2 = 0 then t.1 else t.2
  | none => -1
/-- a row as far as the ends below k go -/
structure RowN (ts : List (Int × Int)) (k q : Nat) (row : List Int) : Prop where
  nd : row.Nodup
  mem : ∀ e : Int, e ∈ row ↔ 0 ≤ e ∧ e < k ∧ plc ts e.toNat = q
  hd : ∀ x xs, row = x :: xs → ∀ y ∈ xs, x < y
  len : row.length ≤ k
structure OrdN (m : Int) (ts : List (Int × Int)) (k : Nat) (rows : List (List Int)) : Prop where
  len : rows.length = m.toNat
  row : ∀ q row, rows[q]? = some row → RowN ts k q row
theorem RowN.ins {ts : List (Int × Int)} {k q i : Nat} {row : List Int} (h : RowN ts k q row) (hq : plc ts k = q) (hi : i ≤ row.length) (h1 : row ≠ [] → 1 ≤ i) : RowN ts (k + 1) q (row.take i ++ [(k : Int)] ++ row.drop i) := by
  have hperm : (row.take i ++ [(k : Int)] ++ row.drop i).Perm ((k : Int) :: row) := by
    refine (List.Perm.append_right _ (List.perm_append_comm)).trans ?_
    simp
  have hk : (k : Int) ∉ row := fun hm => by have := ((h.mem k).mp hm).2.1; omega
  refine ⟨hperm.nodup_iff.mpr (List.nodup_cons.mpr ⟨hk, h.nd⟩), fun e => ?_, fun x xs e y hy => ?_, ?_⟩
  · rw [hperm.mem_iff, List.mem_cons, h.mem]
    constructor
    · rintro (rfl | ⟨a, b, c⟩)
      · exact ⟨by omega, by omega, by simpa using hq⟩
      · exact ⟨a, by omega, c⟩
    · rintro ⟨a, b, c⟩
      by_cases he : e = k
      · exact .inl he
      · exact .inr ⟨a, by omega, c⟩
  · cases row with
    | nil =>
      simp at e
      rw [e.2] at hy
      cases hy
    | cons z zs =>
      obtain ⟨i, rfl⟩ : ∃ j, i = j + 1 := ⟨i - 1, by have := h1 (by simp); omega⟩
      simp at e
      obtain ⟨rfl, rfl⟩ := e
      rcases List.mem_append.mp hy with hy | hy
      · exact h.hd z zs rfl y (List.mem_of_mem_take hy)
      · rcases List.mem_cons.mp hy with rfl | hy
        · exact ((h.mem z).mp (List.mem_cons_self ..)).2.1
        · exact h.hd z zs rfl y (List.mem_of_mem_drop hy)
  · have := hperm.length_eq
    rw [this]
    simp
    exact h.len
theorem RowN.other {ts : List (Int × Int)} {k q : Nat} {row : List Int} (h : RowN ts k q row) (hq : plc ts k ≠ q) : RowN ts (k + 1) q row := by
  refine ⟨h.nd, fun e => ?_, h.hd, Nat.le_succ_of_le h.len⟩
  rw [h.mem]
  constructor
  · rintro ⟨a, b, c⟩
    exact ⟨a, by omega, c⟩
  · rintro ⟨a, b, c⟩
    by_cases he : e = k
    · subst he; exact absurd (by simpa using c) hq
    · exact ⟨a, by omega, c⟩
theorem OrdN.ins {m : Int} {ts : List (Int × Int)} {k q i : Nat} {rows : List (List Int)} {row : List Int} (h : OrdN m ts k rows) (e : rows[q]? = some row) (hq : plc ts k = q) (hi : i ≤ row.length) (h1 : row ≠ [] → 1 ≤ i) : OrdN m ts (k + 1) (rows.set q (row.take i ++ [(k : Int)] ++ row.drop i)) := by
  refine ⟨by rw [List.length_set]; exact h.len, fun q2 row2 e2 => ?_⟩
  by_cases hqq : q = q2
  · subst hqq
    rw [List.getElem?_set_self (List.getElem?_eq_some_iff.mp e).1] at e2
    cases e2
    exact (h.row _ _ e).ins hq hi h1
  · rw [List.getElem?_set_ne hqq] at e2
    exact (h.row _ _ e2).other (by rw [hq]; exact_mod_cast hqq)
theorem plc_get {ts : List (Int × Int)} {k : Nat} (hk : k < 2 * ts.length) : ∃ t, t ∈ ts ∧ ixP (ts.map tieD) ((k : Int) / 2) = some (tieD t) ∧ ixP [.int t.1, .int t.2] ((k : Int) % 2) = some (.int (plc ts k)) ∧ (plc ts k = t.1 ∨ plc ts k = t.2) := by
  have hk2 : k / 2 < ts.length := by omega
  have hg : ts[k / 2]? = some ts[k / 2] := List.getElem?_eq_getElem hk2
  refine ⟨ts[k / 2], List.getElem_mem hk2, ?_, ?_, ?_⟩
  · have := ixP_nat (xs := ts.map tieD) (k := k / 2) (d := tieD ts[k / 2]) (by rw [List.getElem?_map, hg]; rfl)
    exact_mod_cast this
  · unfold plc
    rw [hg]
    by_cases h : k % 2 = 0
    · rw [show (k : Int) % 2 = 0 by omega]
      simp [h]
    · rw [show (k : Int) % 2 = 1 by omega]
      simp [h]
  · unfold plc
    rw [hg]
    dsimp only
    split
    · exact .inl rfl
    · exact .inr rfl
end Lw
end

section
namespace Lw
open PySem DL
end Lw
end

section
namespace Lw
open PySem DL
/-- the row's next one behind an end -/
def nextIn (row : List Int) (e : Int) : Option Int := (row.findIdx? (· == e)).bind fun k => row[(k + 1) % row.length]?
def nxt (ts : List (Int × Int)) (rows : List (List Int)) (e : Nat) : Option Int := (rows[(plc ts e).toNat]?).bind fun row => nextIn row e
def ptn (e : Nat) : Nat := if e % 2 = 0 then e + 1 else e - 1
theorem findIdx_get {row : List Int} {k : Nat} {e : Int} (h : row[k]? = some e) (nd : row.Nodup) : row.findIdx? (· == e) = some k := by
  obtain ⟨h1, h2⟩ := List.getElem?_eq_some_iff.mp h
  rw [List.findIdx?_eq_some_iff_getElem]
  refine ⟨h1, by simp [h2], fun j hj => ?_⟩
  have : row[j] ≠ row[k] := List.pairwise_iff_getElem.mp nd j k (by omega) h1 hj
  rw [h2] at this
  simpa using this
theorem nextIn_get {row : List Int} {k : Nat} {e : Int} (h : row[k]? = some e) (nd : row.Nodup) : nextIn row e = row[(k + 1) % row.length]? := by
  unfold nextIn
  rw [findIdx_get h nd]
  rfl
/-- where an end stands -/
theorem OrdN.at {m : Int} {ts : List (Int × Int)} {rows : List (List Int)} (ho : OrdN m ts (2 * ts.length) rows) (ht : TiesOk m ts) {k : Nat} (hk : k < 2 * ts.length) :
    ∃ q row j y, plc ts k = (q : Nat) ∧ rows[q]? = some row ∧ row[j]? = some (k : Int) ∧ row[(j + 1) % row.length]? = some y ∧ nxt ts rows k = some y ∧ row.findIdx? (· == (k : Int)) = some j ∧ 0 < row.length ∧ row.length ≤ 2 * ts.length ∧ ∃ y', y = (y' : Nat) ∧ y' < 2 * ts.length := by
  obtain ⟨t, ht1, hi1, hi2, hpl⟩ := plc_get hk
  have htk := ht t ht1
  obtain ⟨q, hq⟩ : ∃ q : Nat, plc ts k = q := ⟨(plc ts k).toNat, by omega⟩
  have hqm : q < rows.length := by rw [ho.len]; omega
  obtain ⟨row, hrow⟩ : ∃ row, rows[q]? = some row := ⟨_, List.getElem?_eq_getElem hqm⟩
  have hr := ho.row q row hrow
  have hm : (k : Int) ∈ row := (hr.mem k).mpr ⟨by omega, by omega, by simpa using hq⟩
  obtain ⟨j, hj, hj2⟩ := List.mem_iff_getElem.mp hm
  have hj3 : row[j]? = some (k : Int) := by rw [List.getElem?_eq_getElem hj, hj2]
  have hmod : (j + 1) % row.length < row.length := Nat.mod_lt _ (by omega)
  have hy : row[(j + 1) % row.length]? = some row[(j + 1) % row.length] := List.getElem?_eq_getElem hmod
  have hym := (hr.mem _).mp (List.getElem_mem hmod)
  refine ⟨q, row, j, _, hq, hrow, hj3, hy, ?_, findIdx_get hj3 hr.nd, by omega, hr.len, (row[(j + 1) % row.length]).toNat, by omega, by omega⟩
  unfold nxt
  rw [hq, Int.toNat_natCast, hrow]
  show nextIn row k = _
  rw [nextIn_get hj3 hr.nd, hy]
/-- the others turned about -/
def turn (row : List Int) : List Int := row.take 1 ++ (row.drop 1).reverse
theorem RowN.turn {ts : List (Int × Int)} {k q : Nat} {row : List Int} (h : RowN ts k q row) : RowN ts k q (turn row) := by
  have hperm : (Lw.turn row).Perm row := by
    unfold Lw.turn
    refine (List.Perm.append_left _ (List.reverse_perm _)).trans ?_
    rw [List.take_append_drop]
  refine ⟨hperm.nodup_iff.mpr h.nd, fun e => by rw [hperm.mem_iff, h.mem], fun x xs e y hy => ?_, by rw [hperm.length_eq]; exact h.len⟩
  cases row with
  | nil => cases e
  | cons z zs =>
    unfold Lw.turn at e
    simp at e
    obtain ⟨rfl, rfl⟩ := e
    exact h.hd z zs rfl y (List.mem_reverse.mp hy)
theorem OrdN.turn {m : Int} {ts : List (Int × Int)} {k : Nat} {rows : List (List Int)} (h : OrdN m ts k rows) : OrdN m ts k (rows.map Lw.turn) := by
  refine ⟨by rw [List.length_map]; exact h.len, fun q row e => ?_⟩
  rw [List.getElem?_map] at e
  cases hr : rows[q]? with
  | none => rw [hr] at e; cases e
  | some r0 => rw [hr] at e; cases e; exact (h.row _ _ hr).turn
end Lw
end

section
namespace Lw
open PySem DL
/-- a dict from ends to the next ones, so far -/
structure BehN (ts : List (Int × Int)) (rows : List (List Int)) (q j c : Nat) (kvs : List (Ky × D)) : Prop where
  len : kvs.length ≤ c
  mem : ∀ q' row, rows[q']? = some row → ∀ i y, row[i]? = some y → (q' < q ∨ (q' = q ∧ i < j)) → ∀ x, row[(i + row.length - 1) % row.length]? = some x → valD kvs (.inl x) = some (.int y)
theorem BehN.put {m : Int} {ts : List (Int × Int)} {rows : List (List Int)} {q j c n : Nat} {kvs : List (Ky × D)} {row : List Int} {x y : Int} (ho : OrdN m ts n rows) (h : BehN ts rows q j c kvs) (hr : rows[q]? = some row) (hy : row[j]? = some y) (hx : row[(j + row.length - 1) % row.length]? = some x) : BehN ts rows q (j + 1) (c + 1) (putD kvs (.inl x) (.int y)) := by
  have hj := (List.getElem?_eq_some_iff.mp hy).1
  refine ⟨Nat.le_trans putD_len (by have := h.len; omega), fun q' row' hr' i y' hy' hc x' hx' => ?_⟩
  rw [valD_put]
  have hi := (List.getElem?_eq_some_iff.mp hy').1
  have pm : ∀ i l : Nat, i < l → (i + l - 1) % l < l := fun i l h => Nat.mod_lt _ (by omega)
  by_cases hxx : x' = x
  · subst hxx
    rw [if_pos rfl]
    have hm1 := ((ho.row _ _ hr).mem x').mp (List.mem_of_getElem? hx)
    have hm2 := ((ho.row _ _ hr').mem x').mp (List.mem_of_getElem? hx')
    have hqq : q = q' := by have := hm1.2.2.symm.trans hm2.2.2; exact_mod_cast this
    subst hqq
    rw [hr] at hr'
    cases hr'
    have f1 := findIdx_get hx (ho.row _ _ hr).nd
    have f2 := findIdx_get hx' (ho.row _ _ hr).nd
    rw [f1] at f2
    have f3 := Option.some.inj f2
    have hij : i = j := by
      have a1 : (j + row.length - 1) % row.length = if j = 0 then row.length - 1 else j - 1 := by
        split
        · rename_i h0; subst h0; rw [Nat.zero_add]; exact Nat.mod_eq_of_lt (by omega)
        · rw [show j + row.length - 1 = (j - 1) + row.length by omega, Nat.add_mod_right]; exact Nat.mod_eq_of_lt (by omega)
      have a2 : (i + row.length - 1) % row.length = if i = 0 then row.length - 1 else i - 1 := by
        split
        · rename_i h0; subst h0; rw [Nat.zero_add]; exact Nat.mod_eq_of_lt (by omega)
        · rw [show i + row.length - 1 = (i - 1) + row.length by omega, Nat.add_mod_right]; exact Nat.mod_eq_of_lt (by omega)
      rw [a1, a2] at f3
      split at f3 <;> split at f3 <;> omega
    subst hij
    rw [hy] at hy'
    cases hy'
    rfl
  · rw [if_neg (by simpa using hxx)]
    refine h.mem q' row' hr' i y' hy' ?_ x' hx'
    rcases hc with hc | ⟨rfl, hc⟩
    · exact .inl hc
    · by_cases hij : i = j
      · subst hij
        rw [hr] at hr'
        cases hr'
        rw [hx] at hx'
        exact absurd (Option.some.inj hx').symm hxx
      · exact .inr ⟨rfl, by omega⟩
end Lw
end

section
namespace Lw
open PySem DL
end Lw
end

section
namespace Lw
open PySem DL
/-- the row's one ahead of an end -/
def prevIn (row : List Int) (e : Int) : Option Int := (row.findIdx? (· == e)).bind fun k => row[(k + row.length - 1) % row.length]?
def prv (ts : List (Int × Int)) (rows : List (List Int)) (e : Nat) : Option Int := (rows[(plc ts e).toNat]?).bind fun row => prevIn row e
/-- crossings -/
structure Cr (ts : List (Int × Int)) (cs : List Int) : Prop where
  len : cs.length = ts.length
  ok : ∀ c ∈ cs, c = 0 ∨ c = 1
theorem Cr.get {ts : List (Int × Int)} {cs : List Int} (h : Cr ts cs) {k : Nat} (hk : k < 2 * ts.length) : ∃ c : Int, (c = 0 ∨ c = 1) ∧ cs[k / 2]? = some c ∧ ixP (cs.map PyData.int) ((k : Int) / 2) = some (.int c) := by
  have hl := h.len
  have hk2 : k / 2 < cs.length := by omega
  refine ⟨cs[k / 2], h.ok _ (List.getElem_mem hk2), List.getElem?_eq_getElem hk2, ?_⟩
  have := ixP_nat (xs := cs.map PyData.int) (k := k / 2) (d := .int cs[k / 2]) (by rw [List.getElem?_map, List.getElem?_eq_getElem hk2]; rfl)
  exact_mod_cast this
/-- the hand behind a tie -/
def hb (c h : Int) : Int := if c = 1 then 1 - h else h
end Lw
end

section
namespace Lw
open PySem DL
theorem boolsD_true {α : Type} (xs : List α) : boolsD (xs.map fun _ => PyData.bool true) = some (xs.map fun _ => true) := by
  induction xs with
  | nil => rfl
  | cons x xs ih => simp [boolsD, ih]
theorem gAll_true {α : Type} (xs : List α) : gAll [.fz (.list (xs.map fun _ => PyData.bool true))] = some (.val (.bool true)) := by
  show (boolsD (xs.map fun _ => PyData.bool true)).map _ = _
  rw [boolsD_true]
  simp
end Lw
end

section
namespace Lw
open PySem DL
/-- crossed the other way -/
theorem Cr.other {ts : List (Int × Int)} {cs : List Int} (h : Cr ts cs) : Cr ts (cs.map fun c => 1 - c) := by
  refine ⟨by rw [List.length_map]; exact h.len, fun c hc => ?_⟩
  obtain ⟨x, hx, rfl⟩ := List.mem_map.mp hc
  rcases h.ok x hx with rfl | rfl <;> simp
end Lw
end

section
namespace Lw
open PySem DL
end Lw
end

section
namespace Lw
open PySem DL
theorem ptn_ptn (k : Nat) : ptn (ptn k) = k := by unfold ptn; split <;> split <;> omega
theorem ptn_lt {k n : Nat} (h : k < 2 * n) : ptn k < 2 * n := by unfold ptn; split <;> omega
end Lw
end

section
namespace Lw
open PySem DL
/-- states: the hand behind the tie -/
def hbF (cs : List Int) (s : Nat × Int) : Int := hb (cs[s.1 / 2]?.getD 0) s.2
def bk (cs : List Int) (s : Nat × Int) : Nat × Int := (ptn s.1, 1 - hbF cs s)
def nxF (ts : List (Int × Int)) (rows : List (List Int)) (k : Nat) : Nat := ((nxt ts rows k).getD 0).toNat
def pvF (ts : List (Int × Int)) (rows : List (List Int)) (k : Nat) : Nat := ((prv ts rows k).getD 0).toNat
def fw (ts : List (Int × Int)) (rows : List (List Int)) (cs : List Int) (s : Nat × Int) : Nat × Int := if hbF cs s = 0 then (nxF ts rows (ptn s.1), 0) else (pvF ts rows (ptn s.1), 1)
/-- a state of the web -/
def St (T : Nat) (s : Nat × Int) : Prop := s.1 < 2 * T ∧ (s.2 = 0 ∨ s.2 = 1)
end Lw
end

section
namespace Lw
open PySem DL
section
variable {m : Int} {ts : List (Int × Int)} {rows : List (List Int)} {cs : List Int}
end
end Lw
end

section
namespace Lw
theorem least {P : Nat → Prop} (h : ∃ n, P n) : ∃ n, P n ∧ ∀ m, m < n → ¬ P m := by
  obtain ⟨n, hn⟩ := h
  induction n using Nat.strongRecOn with
  | ind n ih =>
    by_cases h : ∃ m, m < n ∧ P m
    · obtain ⟨m, h1, h2⟩ := h
      exact ih m h1 h2
    · exact ⟨n, hn, fun m h1 h2 => h ⟨m, h1, h2⟩⟩
section
variable {α : Type}
def itr (f : α → α) : Nat → α → α
  | 0, x => x
  | n + 1, x => f (itr f n x)
theorem itr_add (f : α → α) (a b : Nat) (x : α) : itr f (a + b) x = itr f a (itr f b x) := by
  induction a with
  | zero => rw [Nat.zero_add]; rfl
  | succ a ih => rw [Nat.succ_add]; show f _ = f _; rw [ih]
/-- a step that keeps within P, one to one, and comes back within B steps -/
structure Stp (f : α → α) (P : α → Prop) (B : Nat) : Prop where
  cl : ∀ x, P x → P (f x)
  inj : ∀ x y, P x → P y → f x = f y → x = y
  ret : ∀ x, P x → ∃ n, 1 ≤ n ∧ n ≤ B ∧ itr f n x = x
open Classical in
noncomputable def per (f : α → α) (x : α) : Nat := if h : ∃ n, 1 ≤ n ∧ itr f n x = x then Classical.choose (least h) else 0
noncomputable def orb (f : α → α) (x : α) : List α := (List.range (per f x)).map fun n => itr f n x
theorem per_spec {f : α → α} {x : α} (h : ∃ n, 1 ≤ n ∧ itr f n x = x) : 1 ≤ per f x ∧ itr f (per f x) x = x ∧ ∀ m, 1 ≤ m → m < per f x → itr f m x ≠ x := by
  unfold per
  rw [dif_pos h]
  obtain ⟨⟨h1, h2⟩, h3⟩ := Classical.choose_spec (least h)
  exact ⟨h1, h2, fun m a b c => h3 m b ⟨a, c⟩⟩
variable {f : α → α} {P : α → Prop} {B : Nat}
theorem Stp.itr (s : Stp f P B) {x : α} (hx : P x) : ∀ n, P (itr f n x)
  | 0 => hx
  | n + 1 => s.cl _ (s.itr hx n)
theorem Stp.per (s : Stp f P B) {x : α} (hx : P x) : 1 ≤ per f x ∧ Lw.itr f (Lw.per f x) x = x ∧ ∀ m, 1 ≤ m → m < Lw.per f x → Lw.itr f m x ≠ x := by
  obtain ⟨n, h1, _, h2⟩ := s.ret x hx
  exact per_spec ⟨n, h1, h2⟩
theorem Stp.itr_inj (s : Stp f P B) {x y : α} (hx : P x) (hy : P y) : ∀ n, Lw.itr f n x = Lw.itr f n y → x = y
  | 0, h => h
  | n + 1, h => s.itr_inj hx hy n (s.inj _ _ (s.itr hx n) (s.itr hy n) h)
/-- the places of a round are unlike -/
theorem Stp.apart (s : Stp f P B) {x : α} (hx : P x) {i j : Nat} (hij : i < j) (hj : j < Lw.per f x) : Lw.itr f i x ≠ Lw.itr f j x := by
  intro h
  obtain ⟨_, _, h4⟩ := s.per hx
  have e : j = i + (j - i) := by omega
  rw [e, itr_add] at h
  exact h4 (j - i) (by omega) (by omega) (s.itr_inj hx (s.itr hx _) i h).symm
theorem itr_mul {x : α} {p : Nat} (h : itr f p x = x) : ∀ k, itr f (p * k) x = x
  | 0 => rfl
  | k + 1 => by rw [Nat.mul_succ, itr_add, h, itr_mul h k]
theorem Stp.mod (s : Stp f P B) {x : α} (hx : P x) (n : Nat) : Lw.itr f n x = Lw.itr f (n % Lw.per f x) x := by
  obtain ⟨h1, h2, _⟩ := s.per hx
  have e : n = n % Lw.per f x + Lw.per f x * (n / Lw.per f x) := (Nat.mod_add_div n _).symm
  conv => lhs; rw [e, itr_add, itr_mul h2]
theorem orb_len (x : α) : (orb f x).length = per f x := by simp [orb]
theorem orb_get {x : α} {n : Nat} (h : n < per f x) : (orb f x)[n]? = some (itr f n x) := by
  unfold orb
  rw [List.getElem?_map, List.getElem?_range h]
  rfl
theorem mem_orb (s : Stp f P B) {x y : α} (hx : P x) : y ∈ orb f x ↔ ∃ n, itr f n x = y := by
  unfold orb
  rw [List.mem_map]
  constructor
  · rintro ⟨n, _, h⟩; exact ⟨n, h⟩
  · rintro ⟨n, h⟩
    refine ⟨n % per f x, List.mem_range.mpr (Nat.mod_lt _ (s.per hx).1), ?_⟩
    rw [← s.mod hx, h]
theorem orb_nodup (s : Stp f P B) {x : α} (hx : P x) : (orb f x).Nodup := by
  unfold orb
  rw [List.nodup_iff_pairwise_ne, List.pairwise_map]
  refine List.Pairwise.imp_of_mem (R := (· < ·)) (fun {a b} ha hb hab => ?_) List.pairwise_lt_range
  exact s.apart hx hab (List.mem_range.mp hb)
theorem orb_P (s : Stp f P B) {x y : α} (hx : P x) (h : y ∈ orb f x) : P y := by
  obtain ⟨n, rfl⟩ := (mem_orb s hx).mp h
  exact s.itr hx n
theorem orb_symm (s : Stp f P B) {x y : α} (hx : P x) (h : y ∈ orb f x) : x ∈ orb f y := by
  have hy := orb_P s hx h
  obtain ⟨n, rfl⟩ := (mem_orb s hx).mp h
  obtain ⟨h1, h2, _⟩ := s.per hx
  refine (mem_orb s hy).mpr ⟨per f x * (n + 1) - n, ?_⟩
  have : n ≤ per f x * (n + 1) := Nat.le_trans (Nat.le_succ n) (Nat.le_mul_of_pos_left _ h1)
  rw [← itr_add, Nat.sub_add_cancel this, itr_mul h2]
theorem orb_trans (s : Stp f P B) {x y z : α} (hx : P x) (h1 : y ∈ orb f x) (h2 : z ∈ orb f y) : z ∈ orb f x := by
  obtain ⟨n, rfl⟩ := (mem_orb s hx).mp h1
  obtain ⟨m, rfl⟩ := (mem_orb s (orb_P s hx h1)).mp h2
  exact (mem_orb s hx).mpr ⟨m + n, itr_add ..⟩
theorem orb_disj (s : Stp f P B) {x y z : α} (hx : P x) (hy : P y) (h1 : z ∈ orb f x) (h2 : z ∈ orb f y) : y ∈ orb f x := orb_trans s hx h1 (orb_symm s hy h2)
end
/-- pigeonhole: a one-to-one step on [0, N) comes back -/
theorem nodup_len : ∀ (n : Nat) (l : List Nat), l.Nodup → (∀ x ∈ l, x < n) → l.length ≤ n
  | 0, [], _, _ => Nat.le_refl _
  | 0, x :: l, _, h => absurd (h x (by simp)) (by omega)
  | n + 1, l, hn, h => by
    have h1 := nodup_len n (l.filter (· ≠ n)) (hn.filter _) (fun x hx => by
      obtain ⟨h1, h2⟩ := List.mem_filter.mp hx
      have := h x h1
      simp at h2
      omega)
    have h2 : l.length = (l.filter (· ≠ n)).length + (l.filter (fun x => !decide (x ≠ n))).length := by
      rw [← List.countP_eq_length_filter, ← List.countP_eq_length_filter]
      have h := List.length_eq_countP_add_countP (fun x => decide (x ≠ n)) (l := l)
      rw [h]
      congr 1
      exact List.countP_congr fun x _ => by by_cases hx : x = n <;> simp [hx]
    have h3 : (l.filter (fun x => !decide (x ≠ n))).length ≤ 1 := by
      have e : l.filter (fun x => !decide (x ≠ n)) = l.filter (· == n) := List.filter_congr fun x _ => by by_cases hx : x = n <;> simp [hx]
      rw [e, ← List.countP_eq_length_filter]
      exact List.nodup_iff_count.mp hn n
    omega
theorem stp_of {α : Type} {f : α → α} {P : α → Prop} {N : Nat} (code : α → Nat) (hc : ∀ x, P x → code x < N) (hi : ∀ x y, P x → P y → code x = code y → x = y) (cl : ∀ x, P x → P (f x)) (inj : ∀ x y, P x → P y → f x = f y → x = y) : Stp f P N := by
  have it : ∀ x, P x → ∀ n, P (itr f n x) := fun x hx n => by
    induction n with
    | zero => exact hx
    | succ n ih => exact cl _ ih
  have itinj : ∀ x y, P x → P y → ∀ n, itr f n x = itr f n y → x = y := fun x y hx hy n => by
    induction n with
    | zero => exact id
    | succ n ih => exact fun h => ih (inj _ _ (it x hx n) (it y hy n) h)
  refine ⟨cl, inj, fun x hx => ?_⟩
  apply Classical.byContradiction
  intro hno
  have hl := nodup_len N ((List.range (N + 1)).map fun n => code (itr f n x)) (by
    rw [List.nodup_iff_pairwise_ne, List.pairwise_map]
    refine List.Pairwise.imp_of_mem (R := (· < ·)) (fun {a b} ha hb hab h => ?_) List.pairwise_lt_range
    have e := hi _ _ (it x hx a) (it x hx b) h
    have e2 : b = a + (b - a) := by omega
    rw [e2, itr_add] at e
    have := itinj _ _ hx (it x hx _) a e
    exact hno ⟨b - a, by omega, by have := List.mem_range.mp hb; omega, this.symm⟩) (fun y hy => by
    obtain ⟨n, _, rfl⟩ := List.mem_map.mp hy
    exact hc _ (it x hx n))
  simp at hl
  omega
end Lw
end

section
namespace Lw
open PySem DL
/-- onward -/
def onF (ts : List (Int × Int)) (rows : List (List Int)) (k : Nat) : Nat := nxF ts rows (ptn k)
section
variable {m : Int} {ts : List (Int × Int)} {rows : List (List Int)}
end
section
variable {f : Nat → Nat} {P : Nat → Prop} {B : Nat}
/-- a round's least one -/
def isLo (f : Nat → Nat) (x : Nat) : Prop := ∀ y ∈ orb f x, x ≤ y
theorem lo_ex (s : Stp f P B) {x : Nat} (hx : P x) : ∃ i, i < per f x ∧ isLo f (itr f i x) := by
  have h0 := s.per hx
  obtain ⟨v, ⟨i, hi, hv⟩, hmin⟩ := least (P := fun v => ∃ i, i < per f x ∧ itr f i x = v) ⟨x, 0, by omega, rfl⟩
  refine ⟨i, hi, fun y hy => ?_⟩
  have hm : itr f i x ∈ orb f x := (mem_orb s hx).mpr ⟨i, rfl⟩
  have hy2 := orb_trans s hx hm hy
  obtain ⟨n, hn⟩ := (mem_orb s hx).mp hy2
  rw [s.mod hx] at hn
  rw [hv]
  by_cases hlt : y < v
  · exact absurd ⟨n % per f x, Nat.mod_lt _ h0.1, hn⟩ (hmin y hlt)
  · omega
end
end Lw
end

section
namespace Lw
open PySem DL
theorem mmOk_ints (ns : List Int) : mmOk (ns.map .int) = true := by
  unfold mmOk
  rw [all_okE_ints]
  simp [W.alike]
/-- natural numbers as data -/
def intsN (l : List Nat) : List Int := l.map fun n : Nat => (n : Int)
def tupN (l : List Nat) : D := .tuple ((intsN l).map .int)
section
variable {m : Int} {ts : List (Int × Int)} {rows : List (List Int)}
end
end Lw
end

section
namespace Lw
open PySem DL
def loneN (rows : List (List Int)) : List (List Nat) := (rows.filter (·.isEmpty)).map fun _ => []
end Lw
end

section
namespace Lw
open PySem DL
section
variable {f : Nat → Nat} {N B : Nat}
open Classical in
noncomputable def repsN (f : Nat → Nat) (k : Nat) : List Nat := (List.range k).filter fun x => decide (isLo f x)
/-- what is met ahead of the k-th -/
structure MetI (f : Nat → Nat) (N : Nat) (k c : Nat) (kvs : List (Ky × D)) : Prop where
  len : kvs.length ≤ c
  mem : ∀ y, y < N → ((valD kvs (.inl (y : Int))).isSome = true ↔ ∃ z ∈ orb f y, z < k)
theorem MetI.lo (s : Stp f (· < N) B) {k c : Nat} {kvs : List (Ky × D)} (h : MetI f N k c kvs) (hk : k < N) (hm : (valD kvs (.inl (k : Int))).isSome = false) : isLo f k := fun y hy => by
  by_cases hlt : y < k
  · have := (h.mem k hk).mpr ⟨y, hy, hlt⟩
    rw [hm] at this
    cases this
  · omega
theorem lo_uniq (s : Stp f (· < N) B) {k z : Nat} (hk : k < N) (hz : z ∈ orb f k) (h1 : isLo f k) (h2 : isLo f z) : z = k := by
  have a := h1 z hz
  have b := h2 k (orb_symm s hk hz)
  omega
/-- while a round is put down -/
structure MetJ (f : Nat → Nat) (N : Nat) (k j c : Nat) (kvs : List (Ky × D)) : Prop where
  len : kvs.length ≤ c + j
  mem : ∀ y, y < N → ((valD kvs (.inl (y : Int))).isSome = true ↔ (∃ z ∈ orb f y, z < k) ∨ ∃ i, i < j ∧ itr f i k = y)
theorem MetJ.start {k c : Nat} {kvs : List (Ky × D)} (h : MetI f N k c kvs) : MetJ f N k 0 c kvs := ⟨h.len, fun y hy => by rw [h.mem y hy]; simp⟩
theorem MetJ.put {k j c : Nat} {kvs : List (Ky × D)} {d : D} (h : MetJ f N k j c kvs) : MetJ f N k (j + 1) c (putD kvs (.inl ((itr f j k : Nat) : Int)) d) := by
  refine ⟨Nat.le_trans putD_len (by have := h.len; omega), fun y hy => ?_⟩
  rw [valD_put]
  by_cases e : itr f j k = y
  · subst e
    simp
    exact .inr ⟨j, by omega, rfl⟩
  · have e2 : ¬ ((Sum.inl (y : Int) : Ky) = .inl ((itr f j k : Nat) : Int)) := fun h => e (by have := Sum.inl.inj h; omega)
    rw [if_neg e2, h.mem y hy]
    constructor
    · rintro (h | ⟨i, h1, h2⟩)
      · exact .inl h
      · exact .inr ⟨i, by omega, h2⟩
    · rintro (h | ⟨i, h1, h2⟩)
      · exact .inl h
      · refine .inr ⟨i, ?_, h2⟩
        by_cases hij : i = j
        · subst hij; exact absurd h2 e
        · omega
theorem MetJ.done (s : Stp f (· < N) B) {k c : Nat} {kvs : List (Ky × D)} (hk : k < N) (h : MetJ f N k (per f k) c kvs) : MetI f N (k + 1) (c + per f k) kvs := by
  refine ⟨h.len, fun y hy => ?_⟩
  rw [h.mem y hy]
  constructor
  · rintro (⟨z, h1, h2⟩ | ⟨i, h1, h2⟩)
    · exact ⟨z, h1, by omega⟩
    · exact ⟨k, orb_symm s hk ((mem_orb s hk).mpr ⟨i, h2⟩), by omega⟩
  · rintro ⟨z, h1, h2⟩
    by_cases e : z = k
    · subst e
      have := orb_symm s hy h1
      unfold orb at this
      obtain ⟨i, h3, h4⟩ := List.mem_map.mp this
      exact .inr ⟨i, List.mem_range.mp h3, h4⟩
    · exact .inl ⟨z, h1, by omega⟩
end
/-- the faces found ahead of the k-th end -/
noncomputable def fcsK (ts : List (Int × Int)) (rows : List (List Int)) (k : Nat) : List (List Nat) := loneN rows ++ (repsN (onF ts rows) k).map (orb (onF ts rows))
section
variable {m : Int} {ts : List (Int × Int)} {rows : List (List Int)}
end
end Lw
end

section
namespace Lw
open PySem DL
section
variable {m : Int} {ts : List (Int × Int)} {rows : List (List Int)}
end
end Lw
end

section
namespace Lw
open PySem DL
section
variable {m : Int} {ts : List (Int × Int)} {rows : List (List Int)}
end
end Lw
end

section
namespace Lw
open PySem DL
/-- data of whole numbers, tuples and lists, k deep -/
def SmD : Nat → D → Prop
  | _, .int _ => True
  | k + 1, .tuple ds => ds.length ≤ 1000000 ∧ ∀ d ∈ ds, SmD k d
  | k + 1, .list ds => ds.length ≤ 1000000 ∧ ∀ d ∈ ds, SmD k d
  | _, _ => False
theorem gAll_t {ds : List D} : gAll [.fz (.list (List.map (fun _ => PyData.bool true) ds))] = some (.val (.bool true)) := gAll_true ds
theorem zip_self {ds : List D} : pairsD ds ds = ds.map fun d => .tuple [d, d] := by
  unfold pairsD
  rw [List.zipWith_self]
end Lw
end

section
namespace Lw
open PySem DL
noncomputable def facesD (ts : List (Int × Int)) (rows : List (List Int)) : List D := srtD ((fcsK ts rows (2 * ts.length)).map tupN)
theorem SmD_ti {ns : List Int} (h : ns.length ≤ 1000000) {k : Nat} : SmD (k + 1) (.tuple (ns.map .int)) := by
  refine ⟨by simpa using h, fun d hd => ?_⟩
  obtain ⟨n, _, rfl⟩ := List.mem_map.mp hd
  cases k <;> trivial
section
variable {m : Int} {ts : List (Int × Int)} {rows : List (List Int)}
end
theorem pen_mono {a b : Nat} {q : List D} : a ≤ b → Pen a q → Pen b q := fun h ⟨cs, a, g, e, h1, h2, h3, h4⟩ => ⟨cs, a, g, e, h1, by omega, h3, h4⟩
end Lw
end

section
namespace Lw
open PySem DL
end Lw
end

section
namespace Lw
open PySem DL
@[simp] theorem gAdd_ol {xs ys : List D} : gAdd [.ow (.lst xs), .fz (.list ys)] = if xs.length + ys.length ≤ lineD then some (.new (.lst (xs ++ ys))) else none := rfl
def nm (zs : List Int) (a : Int) : Int := zs.getD a.toNat 0
end Lw
end

section
namespace Lw
open PySem DL
theorem srt_pwI (L : List Int) : (L.mergeSort fun a b => decide (a ≤ b)).Pairwise fun a b => decide (a ≤ b) = true :=
  List.pairwise_mergeSort (fun a b c h1 h2 => by simp only [decide_eq_true_eq] at *; omega) (fun a b => by
    have := Int.le_total a b
    simpa using this) L
end Lw
end

section
namespace Lw
open PySem DL
theorem lay_all {xs : List D} (h : ∀ d ∈ xs, d.canLay0 = true) : PyData.canLayAll0 xs = true := by
  induction xs with
  | nil => simp [PyData.canLayAll0]
  | cons x xs ih => simp [PyData.canLayAll0, h x (by simp), ih fun d hd => h d (by simp [hd])]
theorem dep_all {xs : List D} {k : Nat} (h : ∀ d ∈ xs, d.depth ≤ k) : PyData.depthAll xs ≤ k := by
  induction xs with
  | nil => simp [PyData.depthAll]
  | cons x xs ih =>
    simp only [PyData.depthAll]
    exact Nat.max_le.mpr ⟨h x (by simp), ih fun d hd => h d (by simp [hd])⟩
theorem SmD.lay : ∀ {k : Nat} {d : D}, SmD k d → d.canLay0 = true ∧ d.depth ≤ k
  | k, .int _, _ => by simp [PyData.canLay0, PyData.depth]
  | k + 1, .tuple ds, h => by
    refine ⟨by simp only [PyData.canLay0]; exact lay_all fun d hd => (SmD.lay (h.2 d hd)).1, ?_⟩
    simp only [PyData.depth]
    have := dep_all (k := k) fun d hd => (SmD.lay (h.2 d hd)).2
    omega
  | k + 1, .list ds, h => by
    refine ⟨by simp only [PyData.canLay0]; exact lay_all fun d hd => (SmD.lay (h.2 d hd)).1, ?_⟩
    simp only [PyData.depth]
    have := dep_all (k := k) fun d hd => (SmD.lay (h.2 d hd)).2
    omega
  | 0, .tuple _, h => h.elim
  | 0, .list _, h => h.elim
  | 0, .none, h => h.elim
  | 0, .bool _, h => h.elim
  | 0, .str _, h => h.elim
  | 0, .dict _, h => h.elim
  | _ + 1, .none, h => h.elim
  | _ + 1, .bool _, h => h.elim
  | _ + 1, .str _, h => h.elim
  | _ + 1, .dict _, h => h.elim
theorem SmD.okD {k : Nat} {d : D} (h : SmD k d) (hk : k ≤ 40) : DL.okD d = true ∧ DL.okE d = true := by
  obtain ⟨a, b⟩ := h.lay
  unfold DL.okD DL.okE
  simp [a]
  omega
section
variable {m : Int} {ts : List (Int × Int)} {rows : List (List Int)}
open Classical in
theorem reps_mem {f : Nat → Nat} {k x : Nat} : x ∈ repsN f k ↔ x < k ∧ isLo f x := by
  unfold repsN
  rw [List.mem_filter, List.mem_range]
  simp
end
end Lw
end

section
namespace Lw
open PySem DL
section
variable {m : Int} {ts : List (Int × Int)} {rows : List (List Int)}
end
end Lw
end

section
namespace Lw
open PySem DL
def rl (lo hi x : Int) : Int := if x = hi then lo else x
def mkAt (ms : List Int) (a : Int) : Int := ms.getD a.toNat 0
def mstep (ms : List Int) (t : Int × Int) : List Int :=
  ms.map (rl (if mkAt ms t.2 < mkAt ms t.1 then mkAt ms t.2 else mkAt ms t.1) (if mkAt ms t.2 > mkAt ms t.1 then mkAt ms t.2 else mkAt ms t.1))
def rangeI (m : Int) : List Int := (List.range m.toNat).map fun k : Nat => (k : Int)
def marks (m : Int) (ts : List (Int × Int)) : List Int := ts.foldl mstep (rangeI m)
theorem mstep_len (ms : List Int) (t : Int × Int) : (mstep ms t).length = ms.length := by simp [mstep]
theorem foldl_len : ∀ (ts : List (Int × Int)) (ms : List Int), (ts.foldl mstep ms).length = ms.length
  | [], _ => rfl
  | t :: ts, ms => by rw [List.foldl_cons, foldl_len ts, mstep_len]
theorem marks_len (m : Int) (ts : List (Int × Int)) : (marks m ts).length = m.toNat := by
  unfold marks
  rw [foldl_len]
  simp [rangeI]
theorem mkAt_ok {ms : List Int} {a : Int} (h0 : 0 ≤ a) (h1 : a < ms.length) : ixP (ms.map PyData.int) a = some (.int (mkAt ms a)) ∧ ms[a.toNat]? = some (mkAt ms a) := by
  have hg : ms[a.toNat]? = some (mkAt ms a) := by
    unfold mkAt
    rw [List.getD_eq_getElem?_getD, List.getElem?_eq_getElem (by omega)]
    rfl
  exact ⟨ixP_pos h0 (by rw [List.getElem?_map, hg]; rfl), hg⟩
theorem marks_take (m : Int) (ts : List (Int × Int)) {q : Nat} {t : Int × Int} (h : ts[q]? = some t) : marks m (ts.take (q + 1)) = mstep (marks m (ts.take q)) t := by
  unfold marks
  rw [List.take_add_one, h]
  simp [List.foldl_append]
/-- the lists of places with one mark, by the marks -/
def grp (ms : List Int) (f : Int) : List Int := ((List.range ms.length).filter fun p : Nat => mkAt ms (p : Int) == f).map fun p : Nat => (p : Int)
def partsI (ms : List Int) : List (List Int) := (dsort ms).map (grp ms)
def lstI (l : List Int) : D := .list (l.map .int)
def partsD (m : Int) (ts : List (Int × Int)) : List D := (partsI (marks m ts)).map lstI
end Lw
end

section
namespace Lw
open PySem DL
theorem put_keys (kvs : List (Ky × List D)) (k : Ky) (d : D) : (putL kvs k d).map (·.1) = if (kvs.any fun kv => decide (kv.1 = k)) = true then kvs.map (·.1) else kvs.map (·.1) ++ [k] := by
  unfold putL
  split
  · rw [List.map_map]
    refine List.map_congr_left fun kv _ => ?_
    simp only [Function.comp]
    split <;> rfl
  · simp
theorem look_map (f n : Int) (d : D) : ∀ kvs : List (Ky × List D), (n = f → (kvs.any fun kv => decide (kv.1 = .inl f)) = true) →
    lookL (kvs.map fun kv => if kv.1 = .inl f then (kv.1, kv.2 ++ [d]) else kv) n = if n = f then lookL kvs f ++ [d] else lookL kvs n
  | [], h => by
    by_cases e : n = f
    · exact absurd (h e) (by simp)
    · rw [if_neg e]; rfl
  | kv :: t, h => by
    by_cases k1 : kv.1 = .inl n
    · by_cases e : n = f
      · subst e
        unfold lookL
        rw [List.map_cons, if_pos k1, List.find?_cons, List.find?_cons]
        simp [k1]
      · have k2 : ¬ kv.1 = .inl f := fun z => e (by rw [k1] at z; exact Sum.inl.inj z)
        unfold lookL
        rw [List.map_cons, if_neg k2, List.find?_cons, List.find?_cons, if_neg e]
        simp [k1]
    · have hk : ((if kv.1 = .inl f then (kv.1, kv.2 ++ [d]) else kv) : Ky × List D).1 = kv.1 := by split <;> rfl
      have ih := look_map f n d t (fun e => by
        have := h e
        rw [List.any_cons, Bool.or_eq_true] at this
        rcases this with z | z
        · simp only [decide_eq_true_eq] at z
          exact absurd (by rw [e]; exact z) k1
        · exact z)
      have l1 : lookL (((if kv.1 = .inl f then (kv.1, kv.2 ++ [d]) else kv) : Ky × List D) :: (t.map fun kv => if kv.1 = .inl f then (kv.1, kv.2 ++ [d]) else kv)) n = lookL (t.map fun kv => if kv.1 = .inl f then (kv.1, kv.2 ++ [d]) else kv) n := by
        unfold lookL
        rw [List.find?_cons]
        simp [hk, k1]
      have l2 : lookL (kv :: t) n = lookL t n := by
        unfold lookL
        rw [List.find?_cons]
        simp [k1]
      rw [List.map_cons, l1, ih, l2]
      by_cases e : n = f
      · subst e
        rw [if_pos rfl, if_pos rfl, l2]
      · rw [if_neg e, if_neg e]
theorem look_put (kvs : List (Ky × List D)) (f n : Int) (d : D) : lookL (putL kvs (.inl f) d) n = if n = f then lookL kvs f ++ [d] else lookL kvs n := by
  unfold putL
  by_cases h : (kvs.any fun kv => decide (kv.1 = .inl f)) = true
  · rw [if_pos h]
    exact look_map f n d kvs fun _ => h
  · rw [if_neg h]
    have nf : kvs.find? (fun kv => decide (kv.1 = .inl f)) = none := by
      rw [List.find?_eq_none]
      intro kv hk hz
      exact h (List.any_eq_true.mpr ⟨kv, hk, hz⟩)
    by_cases e : n = f
    · subst e
      rw [if_pos rfl]
      unfold lookL
      rw [List.find?_append, nf]
      simp
    · rw [if_neg e]
      unfold lookL
      rw [List.find?_append]
      cases q : kvs.find? fun kv => decide (kv.1 = .inl n) with
      | some kv => rfl
      | none =>
        have : ¬ f = n := fun z => e z.symm
        simp [this]
structure GrpK (ms : List Int) (k : Nat) (kvs : List (Ky × List D)) (ns : List Int) : Prop where
  keys : kvs.map (·.1) = ns.map Sum.inl
  nd : ns.Nodup
  mem : ∀ n, n ∈ ns ↔ ∃ p : Nat, p < k ∧ mkAt ms (p : Int) = n
  look : ∀ n ∈ ns, lookL kvs n = (((List.range k).filter fun p : Nat => mkAt ms (p : Int) == n).map fun p : Nat => (p : Int)).map .int
  lens : ∀ kv ∈ kvs, kv.2.length ≤ k
  len : kvs.length ≤ k
theorem GrpK.zero (ms : List Int) : GrpK ms 0 [] [] := ⟨rfl, .nil, fun n => by simp, (fun n (h : n ∈ []) => by cases h), (fun kv (h : kv ∈ []) => by cases h), Nat.le_refl _⟩
theorem GrpK.step {ms : List Int} {k : Nat} {kvs : List (Ky × List D)} {ns : List Int} (h : GrpK ms k kvs ns) : GrpK ms (k + 1) (putL kvs (.inl (mkAt ms (k : Int))) (.int (k : Int))) (if mkAt ms (k : Int) ∈ ns then ns else ns ++ [mkAt ms (k : Int)]) := by
  have hany : ((kvs.any fun kv => decide (kv.1 = .inl (mkAt ms (k : Int)))) = true) ↔ mkAt ms (k : Int) ∈ ns := by
    rw [List.any_eq_true]
    constructor
    · rintro ⟨kv, h1, h2⟩
      have h3 : (Sum.inl (mkAt ms (k : Int)) : Ky) ∈ kvs.map (·.1) := List.mem_map.mpr ⟨kv, h1, by simpa using h2⟩
      rw [h.keys] at h3
      obtain ⟨n, h4, h5⟩ := List.mem_map.mp h3
      rw [← Sum.inl.inj h5]
      exact h4
    · intro h1
      have h3 : (Sum.inl (mkAt ms (k : Int)) : Ky) ∈ kvs.map (·.1) := by rw [h.keys]; exact List.mem_map.mpr ⟨_, h1, rfl⟩
      obtain ⟨kv, h4, h5⟩ := List.mem_map.mp h3
      exact ⟨kv, h4, by simpa using h5⟩
  refine ⟨?_, ?_, fun n => ?_, fun n hn => ?_, fun kv hkv => ?_, ?_⟩
  · rw [put_keys]
    by_cases hm : mkAt ms (k : Int) ∈ ns
    · rw [if_pos (hany.mpr hm), if_pos hm, h.keys]
    · rw [if_neg (fun z => hm (hany.mp z)), if_neg hm, h.keys, List.map_append]
      rfl
  · by_cases hm : mkAt ms (k : Int) ∈ ns
    · rw [if_pos hm]; exact h.nd
    · rw [if_neg hm, List.nodup_append]
      exact ⟨h.nd, by simp, fun a ha b hb e => by simp at hb; subst hb; exact hm (e ▸ ha)⟩
  · have e1 : (∃ p : Nat, p < k + 1 ∧ mkAt ms (p : Int) = n) ↔ (∃ p : Nat, p < k ∧ mkAt ms (p : Int) = n) ∨ mkAt ms (k : Int) = n := by
      constructor
      · rintro ⟨p, h1, h2⟩
        by_cases hp : p = k
        · subst hp; exact .inr h2
        · exact .inl ⟨p, by omega, h2⟩
      · rintro (⟨p, h1, h2⟩ | h2)
        · exact ⟨p, by omega, h2⟩
        · exact ⟨k, by omega, h2⟩
    rw [e1, ← h.mem]
    by_cases hm : mkAt ms (k : Int) ∈ ns
    · rw [if_pos hm]
      exact ⟨.inl, fun z => z.elim id fun z => z ▸ hm⟩
    · rw [if_neg hm, List.mem_append, List.mem_singleton]
      exact ⟨fun z => z.imp id Eq.symm, fun z => z.imp id Eq.symm⟩
  · rw [look_put, List.range_succ, List.filter_append, List.map_append, List.map_append]
    by_cases e : n = mkAt ms (k : Int)
    · rw [if_pos e]
      have e2 : lookL kvs (mkAt ms (k : Int)) = (((List.range k).filter fun p : Nat => mkAt ms (p : Int) == n).map fun p : Nat => (p : Int)).map .int := by
        by_cases hm : mkAt ms (k : Int) ∈ ns
        · rw [← e, h.look n (e ▸ hm)]
        · have no : (List.range k).filter (fun p : Nat => mkAt ms (p : Int) == n) = [] := by
            rw [List.filter_eq_nil_iff]
            intro p hp hz
            exact hm ((h.mem _).mpr ⟨p, List.mem_range.mp hp, by rw [← e]; simpa using hz⟩)
          rw [no]
          have nf : kvs.find? (fun kv => decide (kv.1 = .inl (mkAt ms (k : Int)))) = none := by
            rw [List.find?_eq_none]
            intro kv hk hz
            exact hm (hany.mp (List.any_eq_true.mpr ⟨kv, hk, hz⟩))
          unfold lookL
          rw [nf]
          rfl
      have e3 : (mkAt ms (k : Int) == n) = true := by rw [e]; simp
      rw [e2, List.filter_cons, if_pos e3]
      rfl
    · have hn2 : n ∈ ns := by
        by_cases hm : mkAt ms (k : Int) ∈ ns
        · rw [if_pos hm] at hn; exact hn
        · rw [if_neg hm, List.mem_append, List.mem_singleton] at hn
          exact hn.elim id fun z => absurd z e
      rw [if_neg e, h.look n hn2]
      have : ¬ mkAt ms (k : Int) = n := fun z => e z.symm
      simp [this]
  · unfold putL at hkv
    split at hkv
    · obtain ⟨kv', h1, rfl⟩ := List.mem_map.mp hkv
      have := h.lens kv' h1
      split
      · simp; omega
      · omega
    · rcases List.mem_append.mp hkv with h1 | h1
      · have := h.lens kv h1
        omega
      · simp at h1
        subst h1
        simp
  · have hl := h.len
    unfold putL
    split
    · simp; omega
    · simp; omega
theorem GrpK.done {ms : List Int} {kvs : List (Ky × List D)} {ns : List Int} (h : GrpK ms ms.length kvs ns) : (ns.mergeSort fun a b => decide (a ≤ b)) = dsort ms ∧ (dsort ms).map (lookL kvs) = (dsort ms).map fun n => (grp ms n).map .int := by
  have hmem : ∀ n, n ∈ ns ↔ n ∈ ms := fun n => by
    rw [h.mem]
    constructor
    · rintro ⟨p, h1, h2⟩
      obtain ⟨_, h3⟩ := mkAt_ok (ms := ms) (a := (p : Int)) (by omega) (by omega)
      rw [h2] at h3
      exact List.mem_of_getElem? h3
    · intro hn
      obtain ⟨p, h1, h2⟩ := List.mem_iff_getElem.mp hn
      refine ⟨p, h1, ?_⟩
      unfold mkAt
      rw [List.getD_eq_getElem?_getD, Int.toNat_natCast, List.getElem?_eq_getElem h1, ← h2]
      rfl
  have hs : (ns.mergeSort fun a b => decide (a ≤ b)) = dsort ms := by
    refine dsort_uniq ?_ fun k => by rw [List.mem_mergeSort, hmem]
    have nd : (ns.mergeSort fun a b => decide (a ≤ b)).Nodup := (List.mergeSort_perm ..).nodup_iff.mpr h.nd
    have pw := srt_pwI ns
    have := pw.and (List.nodup_iff_pairwise_ne.mp nd)
    exact this.imp fun h => by
      have h1 := of_decide_eq_true h.1
      have h2 := h.2
      omega
  refine ⟨hs, List.map_congr_left fun n hn => ?_⟩
  rw [dsort_mem, ← hmem] at hn
  exact h.look n hn
end Lw
end

section
namespace Lw
open PySem DL
section
variable {m : Int} {ts : List (Int × Int)} {rows : List (List Int)}
/-- twice the holes -/
noncomputable def twiceN (m : Int) (ts : List (Int × Int)) (rows : List (List Int)) : Int := 2 * ((partsD m ts).length : Int) - m + (ts.length : Int) - ((facesD ts rows).length : Int)
end
end Lw
end

section
namespace Lw
open PySem DL
def TpD : Nat → D → Prop
  | _, .int _ => True
  | k + 1, .tuple ds => ds.length ≤ 1000000 ∧ ∀ d ∈ ds, TpD k d
  | _, _ => False
section
variable {m p its m1 m2 : Int} {ts ts1 ts2 : List (Int × Int)}
end
end Lw
end

section
namespace Lw
open PySem DL
section
variable {m p its m1 m2 : Int} {ts ts1 ts2 : List (Int × Int)}
end
end Lw
end

section
namespace Lw
open PySem DL
/-- a row begun with its least -/
def begI : List Int → List Int
  | [] => []
  | n :: ns => (n :: ns).drop (((n :: ns).findIdx? (· == ns.foldl min n)).getD 0) ++ (n :: ns).take (((n :: ns).findIdx? (· == ns.foldl min n)).getD 0)
theorem foldl_min_mem : ∀ (ns : List Int) (n : Int), ns.foldl min n ∈ n :: ns
  | [], n => by simp
  | m :: ns, n => by
    rw [List.foldl_cons]
    have := foldl_min_mem ns (min n m)
    rcases List.mem_cons.mp this with h | h
    · rw [h]
      rcases Int.le_total n m with hh | hh
      · rw [Int.min_eq_left hh]; simp
      · rw [Int.min_eq_right hh]; simp
    · simp [h]
theorem foldl_min_le : ∀ (ns : List Int) (n : Int), ∀ y ∈ n :: ns, ns.foldl min n ≤ y
  | [], n, y, h => by
    simp at h
    subst h
    exact Int.le_refl _
  | m :: ns, n, y, h => by
    rw [List.foldl_cons]
    have h0 := foldl_min_le ns (min n m) (min n m) (by simp)
    have h1 : min n m ≤ n := Int.min_le_left ..
    have h2 : min n m ≤ m := Int.min_le_right ..
    rcases List.mem_cons.mp h with rfl | h
    · omega
    · rcases List.mem_cons.mp h with rfl | h
      · omega
      · exact foldl_min_le ns (min n m) y (by simp [h])
theorem min_find (n : Int) (ns : List Int) : ∃ j, (n :: ns).findIdx? (· == ns.foldl min n) = some j ∧ j < ns.length + 1 := by
  cases h : (n :: ns).findIdx? (· == ns.foldl min n) with
  | none =>
    rw [List.findIdx?_eq_none_iff] at h
    have := h _ (foldl_min_mem ns n)
    simp at this
  | some j =>
    refine ⟨j, rfl, ?_⟩
    have := (List.findIdx?_eq_some_iff_findIdx_eq.mp h).1
    simpa using this
def leftE (tie e : Int) : Int := e - 2 * (if tie < e / 2 then 1 else 0)
def leftI (tie : Int) (row : List Int) : List Int := (row.filter fun e => ! (e / 2 == tie)).map (leftE tie)
end Lw
end

section
namespace Lw
open PySem DL
theorem TpD.up : ∀ {k : Nat} {d : D}, TpD k d → TpD (k + 1) d
  | _, .int _, _ => trivial
  | k + 1, .tuple ds, h => ⟨h.1, fun d hd => TpD.up (h.2 d hd)⟩
  | 0, .tuple _, h => h.elim
  | 0, .list _, h => h.elim
  | 0, .none, h => h.elim
  | 0, .bool _, h => h.elim
  | 0, .str _, h => h.elim
  | 0, .dict _, h => h.elim
  | _ + 1, .list _, h => h.elim
  | _ + 1, .none, h => h.elim
  | _ + 1, .bool _, h => h.elim
  | _ + 1, .str _, h => h.elim
  | _ + 1, .dict _, h => h.elim
end Lw
end

section
namespace Lw
open PySem DL
theorem okD_b {b : Bool} : okD (.bool b) = true := by
  unfold okD PyData.canLay0 PyData.depth
  rfl
theorem eqv_bb {a b : Bool} : PyData.eqv (.bool a) (.bool b) = decide (a = b) := by
  cases a <;> cases b <;> (unfold PyData.eqv; rfl)
@[simp] theorem gEq_bb {a b : Bool} : gEq [.fz (.bool a), .fz (.bool b)] = some (.val (.bool (decide (a = b)))) := by
  show (if okD (.bool a) && okD (.bool b) then some (RV.val (.bool (PyData.eqv (.bool a) (.bool b)))) else none) = _
  rw [okD_b, okD_b, eqv_bb]
  rfl
@[simp] theorem gNe_bb {a b : Bool} : gNe [.fz (.bool a), .fz (.bool b)] = some (.val (.bool (!decide (a = b)))) := by
  show (if okD (.bool a) && okD (.bool b) then some (RV.val (.bool (!PyData.eqv (.bool a) (.bool b)))) else none) = _
  rw [okD_b, okD_b, eqv_bb]
  rfl
theorem same2_refl : ∀ (k j : Nat) (d : D), SmD k d → sem_Lsame_1a4f (k + j + 1) [.fz d, .fz d] = some (.ok (.val (.bool true)), [.fz d, .fz d])
  | k, j, .int n, _ => by
    have goal : Oks (defSem 2 4 (b_Lsame_1a4f (sem_Lsame_1a4f (k + j)))) [.fz (.int n), .fz (.int n)] fun v ys => v = .ok (.val (.bool true)) ∧ ys = [.fz (.int n), .fz (.int n)] := by
      have a1 : anyTy [.list, .tuple] (.int n) = some false := rfl
      have a2 : anyTy [.bool] (.int n) = some false := rfl
      have a3 : anyTy [.str] (.int n) = some false := rfl
      have a4 : anyTy [.int] (.int n) = some true := rfl
      refine oks_def rfl ?_
      simp [-getElem?_pos, -getElem?_neg, List.getElem?_cons_zero, List.getElem?_cons_succ, b_Lsame_1a4f, a1, a2, a3, a4]
    obtain ⟨_, _, e, rfl, rfl⟩ := goal
    exact e
  | k + 1, j, .tuple ds, h => by
    obtain ⟨hl, hd⟩ := h
    have ih := fun d (h : d ∈ ds) => same2_refl k j d (hd d h)
    have goal : Oks (defSem 2 4 (b_Lsame_1a4f (sem_Lsame_1a4f (k + j + 1)))) [.fz (.tuple ds), .fz (.tuple ds)] fun v ys => v = .ok (.val (.bool true)) ∧ ys = [.fz (.tuple ds), .fz (.tuple ds)] := by
      have a1 : anyTy [.list] (.tuple ds) = some false := rfl
      have a2 : anyTy [.list, .tuple] (.tuple ds) = some true := rfl
      have z1 : gZip [.fz (.tuple ds), .fz (.tuple ds)] = some (ds.map fun d => .tuple [d, d]) := congrArg some zip_self
      have lb : (lineD : Nat) = 16777216 := rfl
      refine oks_def rfl ?_
      simp [-getElem?_pos, -getElem?_neg, List.getElem?_cons_zero, List.getElem?_cons_succ, b_Lsame_1a4f, a1, a2, z1, anyPin]
      refine lcK_map (f := fun _ => .bool true) (fun d hd => ?_) (by simp; omega) ?_
      · obtain ⟨x, hx, rfl⟩ := List.mem_map.mp hd
        have e2 := ih x hx
        simp [-getElem?_pos, -getElem?_neg, List.getElem?_cons_zero, List.getElem?_cons_succ, e2]
      · have := gAll_t (ds := ds.map fun d => PyData.tuple [d, d])
        rw [List.map_map] at this
        simp [-getElem?_pos, -getElem?_neg, List.getElem?_cons_zero, List.getElem?_cons_succ, this]
    obtain ⟨_, _, e, rfl, rfl⟩ := goal
    rw [show k + 1 + j + 1 = (k + j + 1) + 1 by omega]
    exact e
  | k + 1, j, .list ds, h => by
    obtain ⟨hl, hd⟩ := h
    have ih := fun d (h : d ∈ ds) => same2_refl k j d (hd d h)
    have goal : Oks (defSem 2 4 (b_Lsame_1a4f (sem_Lsame_1a4f (k + j + 1)))) [.fz (.list ds), .fz (.list ds)] fun v ys => v = .ok (.val (.bool true)) ∧ ys = [.fz (.list ds), .fz (.list ds)] := by
      have a1 : anyTy [.list] (.list ds) = some true := rfl
      have a2 : anyTy [.list, .tuple] (.list ds) = some true := rfl
      have z1 : gZip [.fz (.list ds), .fz (.list ds)] = some (ds.map fun d => .tuple [d, d]) := congrArg some zip_self
      have lb : (lineD : Nat) = 16777216 := rfl
      refine oks_def rfl ?_
      simp [-getElem?_pos, -getElem?_neg, List.getElem?_cons_zero, List.getElem?_cons_succ, b_Lsame_1a4f, a1, a2, z1, anyPin]
      refine lcK_map (f := fun _ => .bool true) (fun d hd => ?_) (by simp; omega) ?_
      · obtain ⟨x, hx, rfl⟩ := List.mem_map.mp hd
        have e2 := ih x hx
        simp [-getElem?_pos, -getElem?_neg, List.getElem?_cons_zero, List.getElem?_cons_succ, e2]
      · have := gAll_t (ds := ds.map fun d => PyData.tuple [d, d])
        rw [List.map_map] at this
        simp [-getElem?_pos, -getElem?_neg, List.getElem?_cons_zero, List.getElem?_cons_succ, this]
    obtain ⟨_, _, e, rfl, rfl⟩ := goal
    rw [show k + 1 + j + 1 = (k + j + 1) + 1 by omega]
    exact e
  | 0, _, .tuple _, h => h.elim
  | 0, _, .list _, h => h.elim
  | 0, _, .none, h => h.elim
  | 0, _, .bool _, h => h.elim
  | 0, _, .str _, h => h.elim
  | 0, _, .dict _, h => h.elim
  | _ + 1, _, .none, h => h.elim
  | _ + 1, _, .bool _, h => h.elim
  | _ + 1, _, .str _, h => h.elim
  | _ + 1, _, .dict _, h => h.elim
end Lw
end

section
namespace Lw
open PySem DL
end Lw
end

section
namespace Lw
open PySem DL
theorem begI_spec (row : List Int) : (begI row).Perm row ∧ ∀ x xs, begI row = x :: xs → ∀ y ∈ row, x ≤ y := by
  cases row with
  | nil => exact ⟨.refl _, fun x xs e => by cases e⟩
  | cons n ns =>
    obtain ⟨j, hj, hj2⟩ := min_find n ns
    have e : begI (n :: ns) = (n :: ns).drop j ++ (n :: ns).take j := by
      simp only [begI, hj]
      rfl
    rw [e]
    refine ⟨(List.perm_append_comm).trans (by rw [List.take_append_drop]), fun x xs e2 y hy => ?_⟩
    have hg : (n :: ns)[j]? = some ((n :: ns)[j]'(by simpa using hj2)) := List.getElem?_eq_getElem (by simpa using hj2)
    rw [List.drop_eq_getElem_cons (by simpa using hj2)] at e2
    cases e2
    have := (List.findIdx?_eq_some_iff_getElem.mp hj).2.1
    have h2 : (n :: ns)[j]'(by simpa using hj2) = ns.foldl min n := by simpa using this
    rw [h2]
    exact foldl_min_le ns n y hy
theorem RowN.beg {ts : List (Int × Int)} {k q : Nat} {row : List Int} (nd : row.Nodup) (mem : ∀ e : Int, e ∈ row ↔ 0 ≤ e ∧ e < k ∧ plc ts e.toNat = q) : RowN ts k q (begI row) := by
  obtain ⟨h1, h2⟩ := begI_spec row
  have nd2 : (begI row).Nodup := h1.nodup_iff.mpr nd
  refine ⟨nd2, fun e => by rw [h1.mem_iff, mem], fun x xs e y hy => ?_, ?_⟩
  · have h3 := h2 x xs e y (h1.mem_iff.mp (by rw [e]; exact List.mem_cons_of_mem _ hy))
    have h4 : x ≠ y := fun w => by
      rw [e] at nd2
      subst w
      exact (List.nodup_cons.mp nd2).1 hy
    omega
  · have h3 := nodup_len k ((begI row).map Int.toNat) (by
      rw [List.nodup_iff_pairwise_ne, List.pairwise_map]
      refine List.Pairwise.imp_of_mem (R := (· ≠ ·)) (fun {a b} ha hb hab h => ?_) (List.nodup_iff_pairwise_ne.mp nd2)
      have a1 := (mem a).mp (h1.mem_iff.mp ha)
      have b1 := (mem b).mp (h1.mem_iff.mp hb)
      omega) (fun x hx => by
      obtain ⟨a, ha, rfl⟩ := List.mem_map.mp hx
      have a1 := (mem a).mp (h1.mem_iff.mp ha)
      omega)
    simpa using h3
def endsI (ts : List (Int × Int)) (p : Int) : List Int := ((List.range (2 * ts.length)).filter fun e => decide (plc ts e = p)).map fun e : Nat => (e : Int)
end Lw
end

section
namespace Lw
open PySem DL
section
variable {m : Int} {ts : List (Int × Int)} {rows : List (List Int)} {tie : Nat}
end
end Lw
end

section
namespace Lw
open PySem DL
section
variable {m1 m2 : Int} {ts1 ts2 : List (Int × Int)} {rows1 rows2 : List (List Int)} {p its : Nat}
def shR (c : Int) (row : List Int) : List Int := row.map fun e => e + c
theorem plc_bd {m : Int} {ts : List (Int × Int)} (ht : TiesOk m ts) {x : Nat} (hx : x < 2 * ts.length) : 0 ≤ plc ts x ∧ plc ts x < m := by
  obtain ⟨t, h1, _, _, h2⟩ := plc_get hx
  have := ht t h1
  rcases h2 with h2 | h2 <;> omega
theorem plc_app_lo {ts us : List (Int × Int)} {x : Nat} (hx : x < 2 * ts.length) : plc (ts ++ us) x = plc ts x := by
  unfold plc
  rw [List.getElem?_append_left (by omega)]
end
end Lw
end

section
namespace Lw
open PySem DL
section
variable {m1 m2 : Int} {ts1 ts2 : List (Int × Int)} {rows1 rows2 : List (List Int)} {p its : Nat}
end

end Lw
end

section
namespace Lw
open PySem DL
section
variable {m : Int} {ts : List (Int × Int)} {rows : List (List Int)} {tie : Nat}
theorem gAdd_tt {xs ys : List D} : gAdd [.fz (.tuple xs), .fz (.tuple ys)] = if xs.length + ys.length ≤ lineD then some (.val (.tuple (xs ++ ys))) else none := rfl
/-- the tie leads from the lesser place to the greater one, or back -/
structure Dr (ts : List (Int × Int)) (tie low high : Nat) (e e' : Int) : Prop where
  t : ∃ t, ts[tie]? = some t ∧ ((t = ((low : Int), (high : Int)) ∧ e = 2 * tie ∧ e' = 2 * tie + 1) ∨ (t = ((high : Int), (low : Int)) ∧ e = 2 * tie + 1 ∧ e' = 2 * tie))
  lt : low < high
theorem Dr.lens {low high : Nat} {e e' : Int} (d : Dr ts tie low high e e') (hts : TiesOk m ts) : tie < ts.length ∧ (high : Int) < m := by
  obtain ⟨⟨t, h, h2⟩, hlt⟩ := d
  have h1 := (List.getElem?_eq_some_iff.mp h).1
  obtain ⟨a, b⟩ := hts t (List.mem_of_getElem? h)
  rcases h2 with ⟨rfl, _, _⟩ | ⟨rfl, _, _⟩ <;> exact ⟨h1, by simp at a b; omega⟩
end
end Lw
end

section
namespace Lw
open PySem DL
def putI (row : List Int) (i : Nat) (n : Int) : List Int := row.take i ++ n :: row.drop i
def posC (row : List Int) : D → Nat
  | .int e => match row.findIdx? (· == e) with
    | some j => j + 1
    | none => row.length
  | _ => row.length
def plD (p : Nat) : D := .tuple [.str (Str.ofString "place"), .int p]
inductive Cor (m : Int) (ts : List (Int × Int)) (rows : List (List Int)) : D → Nat → Prop
  | tie (e p : Nat) : e < 2 * ts.length → plc ts e = p → Cor m ts rows (.int e) p
  | bare (p : Nat) : rows[p]? = some [] → (p : Int) < m → Cor m ts rows (plD p) p
theorem posC_le {row : List Int} {c : D} : posC row c ≤ row.length := by
  unfold posC
  split
  · split
    · rename_i j h
      have := (List.findIdx?_eq_some_iff_getElem.mp h).1
      omega
    · exact Nat.le_refl _
  · exact Nat.le_refl _
theorem posC_1 {row : List Int} {c : D} (h : row ≠ []) : 1 ≤ posC row c := by
  have : row.length ≠ 0 := by simpa using h
  unfold posC
  split
  · split <;> omega
  · omega
theorem lay_ints : ∀ row : List Int, PyData.canLayAll0 (row.map PyData.int) = true ∧ PyData.depthAll (row.map PyData.int) ≤ 1
  | [] => ⟨rfl, by simp [PyData.depthAll]⟩
  | x :: xs => by
    have := lay_ints xs
    refine ⟨by simp [PyData.canLayAll0, PyData.canLay0, this.1], ?_⟩
    have h2 := this.2
    simp [PyData.depthAll, PyData.depth]
    omega
end Lw
end

section
namespace Lw
open PySem DL
def putR (rows : List (List Int)) (p : Nat) (c : D) (n : Int) : List (List Int) := rows.set p (putI (rows.getD p []) (posC (rows.getD p []) c) n)
def putRR (rows : List (List Int)) (p1 p2 : Nat) (c1 c2 : D) (T : Nat) : List (List Int) := (putR (putR rows p1 c1 (2 * T)) p2 c2 (2 * T + 1)).map begI
def putT (ts : List (Int × Int)) (p1 p2 : Nat) : List (Int × Int) := ts ++ [((p1 : Int), (p2 : Int))]
theorem Cor.lt {m : Int} {ts : List (Int × Int)} {rows : List (List Int)} {c : D} {p : Nat} (h : Cor m ts rows c p) (ht : TiesOk m ts) : (p : Int) < m := by
  cases h with
  | tie e p he hp => have := plc_bd ht he; omega
  | bare p hr hp => exact hp
theorem putI_len {row : List Int} {i : Nat} {n : Int} : (putI row i n).length = row.length + 1 := by
  unfold putI
  simp
  omega
theorem putR_len {rows : List (List Int)} {p : Nat} {c : D} {n : Int} : (putR rows p c n).length = rows.length := by
  unfold putR
  rw [List.length_set]
theorem getD_get {rows : List (List Int)} {p : Nat} (h : p < rows.length) : rows[p]? = some (rows.getD p []) := by
  rw [List.getD_eq_getElem?_getD, List.getElem?_eq_getElem h]
  rfl
section
variable {m : Int} {ts : List (Int × Int)} {rows : List (List Int)} {c1 c2 : D} {p1 p2 : Nat}
end
end Lw
end

section
namespace Lw
open PySem DL
section
variable {m : Int} {ts : List (Int × Int)} {rows : List (List Int)} {c1 c2 : D} {p1 p2 : Nat}
end
end Lw
end

section
namespace Lw
open PySem DL
section
variable {m : Int} {ts : List (Int × Int)} {rows : List (List Int)} {c1 c2 : D} {p1 p2 : Nat}
theorem plc_putT {x : Nat} (hx : x < 2 * ts.length) : plc (putT ts p1 p2) x = plc ts x := plc_app_lo hx
theorem putT_ties (ht : TiesOk m ts) (h1 : (p1 : Int) < m) (h2 : (p2 : Int) < m) : TiesOk m (putT ts p1 p2) := ht.snoc ⟨⟨by show (0 : Int) ≤ p1; omega, h1⟩, by show (0 : Int) ≤ p2; omega, h2⟩
theorem putI_ord {k : Nat} {us : List (Int × Int)} {p : Nat} {c : D} (ho : OrdN m us k rows) (hp : p < rows.length) (hq : plc us k = p) : OrdN m us (k + 1) (putR rows p c (k : Int)) := by
  have g := getD_get hp
  have := ho.ins g hq (posC_le (c := c)) (posC_1 (c := c))
  unfold putR putI
  simpa using this
theorem putRR_ord (ho : OrdN m ts (2 * ts.length) rows) (ht : TiesOk m ts) (h1 : (p1 : Int) < m) (h2 : (p2 : Int) < m) : OrdN m (putT ts p1 p2) (2 * (putT ts p1 p2).length) (putRR rows p1 p2 c1 c2 ts.length) := by
  have hr := ho.len
  have q1 : p1 < rows.length := by omega
  have q2 : p2 < rows.length := by omega
  have o0 : OrdN m (putT ts p1 p2) (2 * ts.length) rows := by
    refine ⟨ho.len, fun q row hq => ?_⟩
    have h := ho.row q row hq
    refine ⟨h.nd, fun e => ?_, h.hd, h.len⟩
    rw [h.mem]
    constructor
    · rintro ⟨a, b, c⟩
      exact ⟨a, b, by rw [plc_putT (by omega)]; exact c⟩
    · rintro ⟨a, b, c⟩
      exact ⟨a, b, by rw [plc_putT (by omega)] at c; exact c⟩
  have g : (putT ts p1 p2)[ts.length]? = some ((p1 : Int), (p2 : Int)) := by
    unfold putT
    rw [List.getElem?_append_right (Nat.le_refl _), Nat.sub_self]
    rfl
  have e1 : plc (putT ts p1 p2) (2 * ts.length) = p1 := by
    unfold plc
    rw [show 2 * ts.length / 2 = ts.length by omega, g]
    simp
  have e2 : plc (putT ts p1 p2) (2 * ts.length + 1) = p2 := by
    unfold plc
    rw [show (2 * ts.length + 1) / 2 = ts.length by omega, g]
    simp only
    rw [if_neg (by omega)]
  have o1 := putI_ord (c := c1) o0 q1 e1
  have o2 := putI_ord (c := c2) o1 (by rw [putR_len]; exact q2) e2
  have ec : ((2 * ts.length : Nat) : Int) = 2 * (ts.length : Int) := by omega
  have ec2 : ((2 * ts.length + 1 : Nat) : Int) = 2 * (ts.length : Int) + 1 := by omega
  rw [ec] at o1 o2
  rw [ec2] at o2
  have el : 2 * (putT ts p1 p2).length = 2 * ts.length + 1 + 1 := by unfold putT; simp; omega
  rw [el]
  unfold putRR
  refine ⟨by rw [List.length_map]; exact o2.len, fun q row hq => ?_⟩
  rw [List.getElem?_map] at hq
  obtain ⟨row0, h0, rfl⟩ := Option.map_eq_some_iff.mp hq
  have h := o2.row q row0 h0
  exact RowN.beg h.nd h.mem
end
end Lw
end

section
namespace Lw
open PySem DL
section
variable {m : Int} {ts : List (Int × Int)} {rows : List (List Int)} {c1 c2 : D} {p1 p2 : Nat}
end
end Lw
end

section
namespace Lw
open PySem DL
section
variable {m : Int} {ts : List (Int × Int)} {rows : List (List Int)} {c1 c2 : D} {p1 p2 : Nat}
end
end Lw
end

section
namespace Lw
open PySem DL
/-- b is a turned about -/
def Rot (a b : List Int) : Prop := ∃ x y, a = x ++ y ∧ b = y ++ x
theorem Rot.symm {a b : List Int} (h : Rot a b) : Rot b a := by
  obtain ⟨x, y, h1, h2⟩ := h
  exact ⟨y, x, h2, h1⟩
theorem Rot.trans {a b c : List Int} (h : Rot a b) (g : Rot b c) : Rot a c := by
  obtain ⟨x, y, rfl, rfl⟩ := h
  obtain ⟨z, w, e, rfl⟩ := g
  rcases List.append_eq_append_iff.mp e with ⟨t, e1, e2⟩ | ⟨t, e1, e2⟩
  · exact ⟨t, w ++ y, by rw [e2, List.append_assoc], by rw [e1, List.append_assoc]⟩
  · exact ⟨x ++ z, t, by rw [e1, List.append_assoc], by rw [e2, List.append_assoc]⟩
theorem Rot.refl (a : List Int) : Rot a a := ⟨a, [], by simp, by simp⟩
theorem begI_is_rot (row : List Int) : Rot row (begI row) := by
  cases row with
  | nil => exact ⟨[], [], rfl, rfl⟩
  | cons n ns => exact ⟨_, _, (List.take_append_drop (((n :: ns).findIdx? (· == ns.foldl min n)).getD 0) (n :: ns)).symm, rfl⟩
end Lw
end

section
namespace Lw
open PySem DL
end Lw
end

section
namespace Lw
open PySem DL
section
variable {m : Int} {ts : List (Int × Int)} {rows : List (List Int)} {tie : Nat}
end
end Lw
end

section
namespace Lw
open PySem DL
def dnk (low high kept a : Int) : Int := if a = kept then low else a - (if high < a then 1 else 0)
def dkD (low high kept : Int) : D → D
  | .tuple [.int a, .int b] => tieD (dnk low high kept a, dnk low high kept b)
  | d => d
section
variable {m : Int} {ts : List (Int × Int)} {rows : List (List Int)}
end
end Lw
end

section
namespace Lw
open PySem DL
section
variable {m : Int} {ts : List (Int × Int)} {rows : List (List Int)}
end
end Lw
end

section
namespace Lw
open PySem DL
section
variable {m : Int} {ts : List (Int × Int)} {rows : List (List Int)}
end
end Lw
end

section
namespace Lw
open PySem DL
section
variable {m : Int} {ts : List (Int × Int)} {rows : List (List Int)}
end
end Lw
end

section
namespace Lw
open PySem DL
section
variable {m : Int} {ts : List (Int × Int)} {rows : List (List Int)}
end
end Lw
end

section
namespace Lw
open PySem DL
theorem Rot.map' {a b : List Int} (f : Int → Int) (h : Rot a b) : Rot (a.map f) (b.map f) := by
  obtain ⟨x, y, rfl, rfl⟩ := h
  exact ⟨x.map f, y.map f, by simp, by simp⟩
theorem Rot.filter' {a b : List Int} (f : Int → Bool) (h : Rot a b) : Rot (a.filter f) (b.filter f) := by
  obtain ⟨x, y, rfl, rfl⟩ := h
  exact ⟨x.filter f, y.filter f, by simp, by simp⟩
theorem Rot.mem {a b : List Int} (h : Rot a b) (x : Int) : x ∈ a ↔ x ∈ b := by
  obtain ⟨u, v, rfl, rfl⟩ := h
  simp [or_comm]
theorem Rot.nodup {a b : List Int} (h : Rot a b) (nd : a.Nodup) : b.Nodup := by
  obtain ⟨u, v, rfl, rfl⟩ := h
  exact (List.perm_append_comm.nodup_iff).mp nd
theorem Rot.of (x y : List Int) : Rot (x ++ y) (y ++ x) := ⟨x, y, rfl, rfl⟩
theorem Rot.left {a b : List Int} (t : Int) (h : Rot a b) : Rot (leftI t a) (leftI t b) := (h.filter' _).map' _
section
variable {m : Int} {ts : List (Int × Int)} {rows : List (List Int)}
end
end Lw
end

section
namespace Lw
open PySem DL
def fct : Nat → Nat
  | 0 => 1
  | n + 1 => (n + 1) * fct n
/-- the n-th of all orders of a list of so many -/
def prm : Nat → List Int → Nat → List Int
  | 0, _, _ => []
  | k + 1, l, n => match l[n / fct k]? with
    | some x => x :: prm k (l.eraseIdx (n / fct k)) (n % fct k)
    | none => []
def rowAt (E : List Int) (n : Nat) : List Int := E.take 1 ++ prm (E.length - 1) (E.drop 1) n
/-- a row, each end that isn't in it behind it -/
def ext (E row : List Int) : List (List Int) := (E.filter fun e => !row.contains e).map fun e => row ++ [e]
end Lw
end

section
namespace Lw
open PySem DL
section
variable {m : Int} {ts : List (Int × Int)}
/-- how many rows a place's ends have; the places ahead together -/
def wR (ts : List (Int × Int)) (p : Nat) : Nat := fct ((endsI ts p).length - 1)
def ordA (ts : List (Int × Int)) : Nat → Nat → List (List Int)
  | 0, _ => []
  | p + 1, n => ordA ts p (n / wR ts p) ++ [rowAt (endsI ts p) (n % wR ts p)]
end
end Lw
end

section
namespace Lw
open PySem DL
set_option exponentiation.threshold 400
section
variable {m : Int} {ts : List (Int × Int)}
end
end Lw
end

section
namespace Lw
open Classical in
noncomputable def cnt (N : Nat) (P : Nat → Prop) : Nat := ((List.range N).filter fun x => decide (P x)).length
/-- classes that become one -/
structure Eqv (N : Nat) (R : Nat → Nat → Prop) : Prop where
  rf : ∀ x, x < N → R x x
  sy : ∀ x y, x < N → y < N → R x y → R y x
  tr : ∀ x y z, x < N → y < N → z < N → R x y → R y z → R x z
theorem Eqv.low {N : Nat} {R : Nat → Nat → Prop} (e : Eqv N R) {a : Nat} (ha : a < N) : ∃ l, l < N ∧ R a l ∧ ∀ y, y < N → R a y → l ≤ y := by
  obtain ⟨l, ⟨h1, h2⟩, h3⟩ := least (P := fun l => l < N ∧ R a l) ⟨a, ha, e.rf a ha⟩
  refine ⟨l, h1, h2, fun y hy hr => ?_⟩
  by_cases h : y < l
  · exact absurd ⟨hy, hr⟩ (h3 y h)
  · omega
def SOr (f : Nat → Nat) (x y : Nat) : Prop := ∃ n, itr f n x = y
section
variable {f : Nat → Nat} {N B : Nat}
def swp (a b x : Nat) : Nat := if x = a then b else if x = b then a else x
theorem swp_a (a b : Nat) : swp a b a = b := by simp [swp]
theorem swp_b (a b : Nat) : swp a b b = a := by unfold swp; split <;> simp_all
theorem swp_o {a b x : Nat} (h : x ≠ a) (h2 : x ≠ b) : swp a b x = x := by simp [swp, h, h2]
theorem swp_swp (a b x : Nat) : swp a b (swp a b x) = x := by
  by_cases h : x = a
  · subst h; rw [swp_a, swp_b]
  · by_cases h2 : x = b
    · subst h2; rw [swp_b, swp_a]
    · rw [swp_o h h2, swp_o h h2]
theorem swp_lt {a b x N : Nat} (ha : a < N) (hb : b < N) (hx : x < N) : swp a b x < N := by
  unfold swp
  split
  · exact hb
  · split
    · exact ha
    · exact hx
/-- two things exchanged ahead of the step -/
def fsw (f : Nat → Nat) (a b : Nat) : Nat → Nat := fun x => f (swp a b x)
theorem fsw_stp (s : Stp f (· < N) B) {a b : Nat} (ha : a < N) (hb : b < N) : Stp (fsw f a b) (· < N) N := by
  refine stp_of id (fun x h => h) (fun x y _ _ h => h) (fun x hx => s.cl _ (swp_lt ha hb hx)) fun x y hx hy h => ?_
  have := s.inj _ _ (swp_lt ha hb hx) (swp_lt ha hb hy) h
  have := congrArg (swp a b) this
  rwa [swp_swp, swp_swp] at this
end
end Lw
end

section
namespace Lw
def pt2 (x : Nat) : Nat := swp (2 * (x / 2)) (2 * (x / 2) + 1) x
/-- the step, the first k ties gone along -/
def fK (σ : Nat → Nat) (k : Nat) (x : Nat) : Nat := σ (if x / 2 < k then pt2 x else x)
theorem fK_zero (σ : Nat → Nat) : fK σ 0 = σ := by
  funext x
  simp [fK]
theorem fK_succ (σ : Nat → Nat) (k : Nat) : fK σ (k + 1) = fsw (fK σ k) (2 * k) (2 * k + 1) := by
  funext x
  show σ _ = fK σ k (swp (2 * k) (2 * k + 1) x)
  by_cases h1 : x = 2 * k
  · subst h1
    rw [swp_a, if_pos (by omega)]
    unfold fK pt2
    rw [if_neg (by omega), show 2 * (2 * k / 2) = 2 * k by omega, swp_a]
  · by_cases h2 : x = 2 * k + 1
    · subst h2
      rw [swp_b, if_pos (by omega)]
      unfold fK pt2
      rw [if_neg (by omega), show 2 * ((2 * k + 1) / 2) = 2 * k by omega, swp_b]
    · rw [swp_o h1 h2]
      unfold fK
      by_cases h3 : x / 2 < k
      · rw [if_pos h3, if_pos (by omega)]
      · rw [if_neg h3, if_neg (by omega)]
/-- places that hang together by the first k ties -/
structure Hang (n m : Nat) (pl : Nat → Nat) (R : Nat → Nat → Nat → Prop) : Prop where
  eqv : ∀ k, k ≤ n → Eqv m (R k)
  zero : ∀ x y, x < m → y < m → (R 0 x y ↔ x = y)
  succ : ∀ k, k < n → ∀ x y, x < m → y < m → (R (k + 1) x y ↔ R k x y ∨ (R k x (pl (2 * k)) ∧ R k (pl (2 * k + 1)) y) ∨ (R k x (pl (2 * k + 1)) ∧ R k (pl (2 * k)) y))
section
variable {σ pl : Nat → Nat} {n m B : Nat} {R : Nat → Nat → Nat → Prop} {A : Nat → Prop}
theorem pt2_lt {x : Nat} (h : x < 2 * n) : pt2 x < 2 * n := swp_lt (by omega) (by omega) h
theorem fK_stp (s : Stp σ (· < 2 * n) B) : ∀ k, k ≤ n → Stp (fK σ k) (· < 2 * n) (max B (2 * n))
  | 0, _ => by
    rw [fK_zero]
    exact ⟨s.cl, s.inj, fun x hx => by obtain ⟨i, h1, h2, h3⟩ := s.ret x hx; exact ⟨i, h1, by omega, h3⟩⟩
  | k + 1, h => by
    rw [fK_succ]
    have := fsw_stp (fK_stp s k (by omega)) (a := 2 * k) (b := 2 * k + 1) (by omega) (by omega)
    exact ⟨this.cl, this.inj, fun x hx => by obtain ⟨i, h1, h2, h3⟩ := this.ret x hx; exact ⟨i, h1, by omega, h3⟩⟩
theorem Hang.tie (h : Hang n m pl R) (hp : ∀ x, x < 2 * n → pl x < m) : ∀ k, k ≤ n → ∀ j, j < k → R k (pl (2 * j)) (pl (2 * j + 1))
  | k + 1, hk, j, hj => by
    have h0 := hp (2 * j) (by omega)
    have h1 := hp (2 * j + 1) (by omega)
    rw [h.succ k (by omega) _ _ h0 h1]
    by_cases e : j = k
    · subst e
      exact .inr (.inl ⟨(h.eqv j (by omega)).rf _ h0, (h.eqv j (by omega)).rf _ h1⟩)
    · exact .inl (h.tie hp k (by omega) j (by omega))
/-- a step keeps within what hangs together -/
theorem Hang.step (h : Hang n m pl R) (s : Stp σ (· < 2 * n) B) (hp : ∀ x, x < 2 * n → pl x < m) (hs : ∀ x, x < 2 * n → pl (σ x) = pl x) {k : Nat} (hk : k ≤ n) {x : Nat} (hx : x < 2 * n) : R k (pl x) (pl (fK σ k x)) := by
  have e := h.eqv k hk
  unfold fK
  split
  · rename_i hlt
    rw [hs _ (pt2_lt hx)]
    have ht := h.tie hp k hk (x / 2) hlt
    have h0 := hp (2 * (x / 2)) (by omega)
    have h1 := hp (2 * (x / 2) + 1) (by omega)
    unfold pt2
    by_cases e1 : x = 2 * (x / 2)
    · have : swp (2 * (x / 2)) (2 * (x / 2) + 1) x = 2 * (x / 2) + 1 := by unfold swp; rw [if_pos e1]
      rw [this]
      rw [← e1] at ht ⊢
      exact ht
    · have e2 : x = 2 * (x / 2) + 1 := by omega
      have : swp (2 * (x / 2)) (2 * (x / 2) + 1) x = 2 * (x / 2) := by unfold swp; rw [if_neg e1, if_pos e2]
      rw [this]
      have ht := e.sy _ _ h0 h1 ht
      rw [← e2] at ht
      exact ht
  · rw [hs x hx]
    exact e.rf _ (hp x hx)
theorem Hang.so (h : Hang n m pl R) (s : Stp σ (· < 2 * n) B) (hp : ∀ x, x < 2 * n → pl x < m) (hs : ∀ x, x < 2 * n → pl (σ x) = pl x) {k : Nat} (hk : k ≤ n) {x y : Nat} (hx : x < 2 * n) (hxy : SOr (fK σ k) x y) : R k (pl x) (pl y) := by
  have e := h.eqv k hk
  have s' := fK_stp s k hk
  obtain ⟨i, rfl⟩ := hxy
  induction i with
  | zero => exact e.rf _ (hp x hx)
  | succ i ih => exact e.tr _ _ _ (hp _ hx) (hp _ (s'.itr hx i)) (hp _ (s'.itr hx (i + 1))) ih (h.step s hp hs hk (s'.itr hx i))
end
end Lw
end

section
namespace Lw
open PySem DL
theorem rl_eq {lo hi x y : Int} : rl lo hi x = rl lo hi y ↔ x = y ∨ ((x = lo ∨ x = hi) ∧ (y = lo ∨ y = hi)) := by
  unfold rl
  by_cases h1 : x = hi <;> by_cases h2 : y = hi
  · simp [h1, h2]
  · rw [if_pos h1, if_neg h2]
    constructor
    · intro h; exact .inr ⟨.inr h1, .inl h.symm⟩
    · rintro (h | ⟨_, h | h⟩)
      · exact absurd (h.symm.trans h1) h2
      · exact h.symm
      · exact absurd h h2
  · rw [if_neg h1, if_pos h2]
    constructor
    · intro h; exact .inr ⟨.inl h, .inr h2⟩
    · rintro (h | ⟨h | h, _⟩)
      · exact absurd (h.trans h2) h1
      · exact h
      · exact absurd h h1
  · rw [if_neg h1, if_neg h2]
    constructor
    · intro h; exact .inl h
    · rintro (h | ⟨h | h, h' | h'⟩)
      · exact h
      · exact h.trans h'.symm
      · exact absurd h' h2
      · exact absurd h h1
      · exact absurd h h1
theorem mkAt_map {g : Int → Int} {l : List Int} {x : Int} (h0 : 0 ≤ x) (h1 : x < l.length) : mkAt (l.map g) x = g (mkAt l x) := by
  unfold mkAt
  rw [List.getD_eq_getElem?_getD, List.getD_eq_getElem?_getD, List.getElem?_map, List.getElem?_eq_getElem (by omega)]
  rfl
/-- one tie more: what hangs together -/
theorem mstep_eq {ms : List Int} {t : Int × Int} {x y : Int} (hx : 0 ≤ x ∧ x < ms.length) (hy : 0 ≤ y ∧ y < ms.length) :
    mkAt (mstep ms t) x = mkAt (mstep ms t) y ↔ mkAt ms x = mkAt ms y ∨ ((mkAt ms x = mkAt ms t.1 ∨ mkAt ms x = mkAt ms t.2) ∧ (mkAt ms y = mkAt ms t.1 ∨ mkAt ms y = mkAt ms t.2)) := by
  unfold mstep
  rw [mkAt_map hx.1 hx.2, mkAt_map hy.1 hy.2, rl_eq]
  generalize mkAt ms t.1 = a
  generalize mkAt ms t.2 = b
  by_cases h : b < a
  · rw [if_pos h, if_neg (by omega)]
    constructor
    · rintro (h | ⟨h1, h2⟩)
      · exact .inl h
      · exact .inr ⟨h1.symm, h2.symm⟩
    · rintro (h | ⟨h1, h2⟩)
      · exact .inl h
      · exact .inr ⟨h1.symm, h2.symm⟩
  · rw [if_neg h]
    by_cases h2 : b > a
    · rw [if_pos h2]
    · rw [if_neg h2]
      have : a = b := by omega
      subst this
      simp
end Lw
end

section
namespace Lw
open PySem DL
theorem grp_mem {ms : List Int} {f a : Int} : a ∈ grp ms f ↔ 0 ≤ a ∧ a < ms.length ∧ mkAt ms a = f := by
  unfold grp
  rw [List.mem_map]
  constructor
  · rintro ⟨p, h1, rfl⟩
    rw [List.mem_filter, List.mem_range] at h1
    exact ⟨by omega, by omega, by simpa using h1.2⟩
  · rintro ⟨h0, h1, h2⟩
    refine ⟨a.toNat, ?_, by omega⟩
    rw [List.mem_filter, List.mem_range]
    refine ⟨by omega, ?_⟩
    rw [show ((a.toNat : Nat) : Int) = a by omega, h2]
    simp
theorem mkAt_mem {ms : List Int} {a : Int} (h0 : 0 ≤ a) (h1 : a < ms.length) : mkAt ms a ∈ ms := List.mem_of_getElem? (mkAt_ok h0 h1).2
end Lw
end

section
namespace Lw
open PySem DL
theorem mkAt_range {m a : Int} (h0 : 0 ≤ a) (h1 : a < m) : mkAt (rangeI m) a = a := by
  unfold mkAt rangeI
  rw [List.getD_eq_getElem?_getD, List.getElem?_map, List.getElem?_range (by omega)]
  show ((a.toNat : Nat) : Int) = a
  omega
end Lw
end

section
namespace Lw
open PySem DL
section
variable {m : Int} {ts : List (Int × Int)} {rows : List (List Int)}
def plN (ts : List (Int × Int)) (x : Nat) : Nat := (plc ts x).toNat
def hangR (m : Int) (ts : List (Int × Int)) (k x y : Nat) : Prop := mkAt (marks m (ts.take k)) (x : Int) = mkAt (marks m (ts.take k)) (y : Int)
theorem plc_tie {k : Nat} {t : Int × Int} (h : ts[k]? = some t) : plc ts (2 * k) = t.1 ∧ plc ts (2 * k + 1) = t.2 := by
  unfold plc
  rw [show 2 * k / 2 = k by omega, show (2 * k + 1) / 2 = k by omega, h]
  exact ⟨if_pos (by omega), if_neg (by omega)⟩
theorem plN_cast (ht : TiesOk m ts) {x : Nat} (hx : x < 2 * ts.length) : ((plN ts x : Nat) : Int) = plc ts x ∧ plN ts x < m.toNat := by
  have := plc_bd ht hx
  unfold plN
  omega
theorem hang (ht : TiesOk m ts) : Hang ts.length m.toNat (plN ts) (hangR m ts) := by
  refine ⟨fun k _ => ⟨fun x _ => rfl, fun x y _ _ h => Eq.symm h, fun x y z _ _ _ h1 h2 => Eq.trans h1 h2⟩, fun x y hx hy => ?_, fun k hk x y hx hy => ?_⟩
  · unfold hangR
    rw [List.take_zero]
    show mkAt (rangeI m) x = mkAt (rangeI m) y ↔ _
    rw [mkAt_range (by omega) (by omega), mkAt_range (by omega) (by omega)]
    omega
  · obtain ⟨t, h⟩ : ∃ t, ts[k]? = some t := ⟨_, List.getElem?_eq_getElem hk⟩
    have hm := marks_len m (ts.take k)
    have c1 := (plN_cast ht (x := 2 * k) (by omega)).1
    have c2 := (plN_cast ht (x := 2 * k + 1) (by omega)).1
    rw [(plc_tie h).1] at c1
    rw [(plc_tie h).2] at c2
    unfold hangR
    rw [marks_take m ts h, mstep_eq (by omega) (by omega), c1, c2]
    generalize mkAt (marks m (ts.take k)) (x : Int) = a
    generalize mkAt (marks m (ts.take k)) (y : Int) = b
    generalize mkAt (marks m (ts.take k)) t.1 = c
    generalize mkAt (marks m (ts.take k)) t.2 = d
    constructor
    · rintro (h | ⟨h1 | h1, h2 | h2⟩)
      · exact .inl h
      · exact .inl (h1.trans h2.symm)
      · exact .inr (.inl ⟨h1, h2.symm⟩)
      · exact .inr (.inr ⟨h1, h2.symm⟩)
      · exact .inl (h1.trans h2.symm)
    · rintro (h | ⟨h1, h2⟩ | ⟨h1, h2⟩)
      · exact .inl h
      · exact .inr ⟨.inl h1, .inr h2.symm⟩
      · exact .inr ⟨.inr h1, .inl h2.symm⟩
theorem marks_tie (ht : TiesOk m ts) {k : Nat} (hk : k < ts.length) : mkAt (marks m ts) (plc ts (2 * k)) = mkAt (marks m ts) (plc ts (2 * k + 1)) := by
  have := (hang ht).tie (fun x hx => (plN_cast ht hx).2) ts.length (Nat.le_refl _) k hk
  unfold hangR at this
  rw [List.take_length, (plN_cast ht (x := 2 * k) (by omega)).1, (plN_cast ht (x := 2 * k + 1) (by omega)).1] at this
  exact this
def faceP (A : Nat → Bool) : List Nat → Bool
  | [] => false
  | x :: _ => A x
end
end Lw
end

section
namespace Lw
open PySem DL
section
variable {m : Int} {ts : List (Int × Int)} {rows : List (List Int)} {Ls : List (List Nat)}
def tiesIn (m : Int) (ts : List (Int × Int)) (f : Int) : Nat := (ts.filter fun t => mkAt (marks m ts) t.1 == f).length
def loneIn (m : Int) (ts : List (Int × Int)) (rows : List (List Int)) (f : Int) : Nat := ((List.range rows.length).filter fun p : Nat => (rows.getD p []).isEmpty && (mkAt (marks m ts) (p : Int) == f)).length
end
end Lw
end

section
namespace Lw
open PySem DL
section
variable {m : Int} {ts : List (Int × Int)} {rows : List (List Int)} {Ls : List (List Nat)}
/-- the list of numbers of parts -/
structure NumOk (m : Int) (ts : List (Int × Int)) (ns : List Int) : Prop where
  len : ns.length = m.toNat
  num : ∀ (p i : Nat), p < m.toNat → (dsort (marks m ts))[i]? = some (mkAt (marks m ts) (p : Int)) → ns[p]? = some (i : Int)
theorem NumOk.at (h : NumOk m ts ns) {a : Int} (ha : 0 ≤ a ∧ a < m) : ∃ i : Nat, (dsort (marks m ts))[i]? = some (mkAt (marks m ts) a) ∧ i < (dsort (marks m ts)).length ∧ ixP (ns.map .int) a = some (.int (i : Int)) := by
  have hml := marks_len m ts
  have hm : mkAt (marks m ts) a ∈ dsort (marks m ts) := dsort_mem.mpr (mkAt_mem ha.1 (by omega))
  obtain ⟨i, hi⟩ := List.mem_iff_getElem?.mp hm
  refine ⟨i, hi, (List.getElem?_eq_some_iff.mp hi).1, ixP_pos ha.1 ?_⟩
  rw [List.getElem?_map, h.num a.toNat i (by omega) (by rw [Int.toNat_of_nonneg ha.1]; exact hi)]
  rfl
end
end Lw
end

section
namespace Lw
open PySem DL
section
variable {m : Int} {ts : List (Int × Int)} {rows : List (List Int)} {Ls : List (List Nat)}
def g1 (m : Int) (ts : List (Int × Int)) (q : Nat) (f : Int) : Int := 2 - (grp (marks m ts) f).length + (((ts.take q).filter fun t => mkAt (marks m ts) t.1 == f).length : Nat)
def g2 (m : Int) (ts : List (Int × Int)) (rows : List (List Int)) (j : Nat) (f : Int) : Int := 2 - (grp (marks m ts) f).length + tiesIn m ts f - (((List.range j).filter fun p : Nat => (rows.getD p []).isEmpty && (mkAt (marks m ts) (p : Int) == f)).length : Nat)
def g3 (m : Int) (ts : List (Int × Int)) (rows : List (List Int)) (Ls : List (List Nat)) (k : Nat) (f : Int) : Int := 2 - (grp (marks m ts) f).length + tiesIn m ts f - loneIn m ts rows f - (((Ls.take k).filter (faceP fun x => mkAt (marks m ts) (plc ts x) == f)).length : Nat)
end
end Lw
end

section
namespace Lw
open PySem DL
section
variable {m : Int} {ts : List (Int × Int)} {rows : List (List Int)} {Ls Ls' : List (List Nat)}
end
end Lw
end

section
namespace Lw
open PySem DL
section
variable {m : Int} {ts : List (Int × Int)} {rows : List (List Int)} {Ls : List (List Nat)}
end
end Lw
end

section
namespace Lw
open PySem DL
section
variable {m : Int} {ts : List (Int × Int)}
/-- the holes of the order of a number -/
noncomputable def hN (m : Int) (ts : List (Int × Int)) (n : Nat) : Int := twiceN m ts (ordA ts m.toNat n) / 2
end
end Lw
end

section
namespace Lw
open PySem DL
theorem rot_get {u v : List Int} {j : Nat} (hj : j < u.length + v.length) : (v ++ u)[(j + v.length) % (u.length + v.length)]? = (u ++ v)[j]? := by
  by_cases h : j < u.length
  · rw [Nat.mod_eq_of_lt (by omega), List.getElem?_append_right (by omega), List.getElem?_append_left h, Nat.add_sub_cancel]
  · have : (j + v.length) % (u.length + v.length) = j - u.length := by
      rw [show j + v.length = (j - u.length) + (u.length + v.length) by omega, Nat.add_mod_right, Nat.mod_eq_of_lt (by omega)]
    rw [this, List.getElem?_append_left (by omega), List.getElem?_append_right (by omega)]
section
variable {m m' : Int} {ts ts' : List (Int × Int)} {rows rows' : List (List Int)}
end
end Lw
end

section
namespace Lw
open PySem DL
theorem nextIn_rot {a b : List Int} {e : Int} (h : Rot a b) (nd : a.Nodup) (he : e ∈ a) : nextIn b e = nextIn a e := by
  obtain ⟨u, v, rfl, rfl⟩ := h
  obtain ⟨j, hj, hje⟩ := List.mem_iff_getElem.mp he
  have hj2 : (u ++ v)[j]? = some e := by rw [List.getElem?_eq_getElem hj, hje]
  rw [List.length_append] at hj
  have nd2 : (v ++ u).Nodup := (List.perm_append_comm).nodup_iff.mp nd
  have g1 : (v ++ u)[(j + v.length) % (u.length + v.length)]? = some e := by rw [rot_get hj, hj2]
  rw [nextIn_get g1 nd2, nextIn_get hj2 nd]
  have hl : (v ++ u).length = u.length + v.length := by rw [List.length_append]; omega
  have hl2 : (u ++ v).length = u.length + v.length := List.length_append
  rw [hl, hl2]
  have e2 : ((j + v.length) % (u.length + v.length) + 1) % (u.length + v.length) = ((j + 1) % (u.length + v.length) + v.length) % (u.length + v.length) := by
    rw [Nat.mod_add_mod, Nat.mod_add_mod]
    congr 1
    omega
  rw [e2, rot_get (Nat.mod_lt _ (by omega))]
/-- an end put behind another one -/
theorem nextIn_put {row : List Int} {i : Nat} {n c : Int} (nd : row.Nodup) (hn : n ∉ row) (hi : i < row.length) (hc : row[i]? = some c) {e : Int} (he : e ∈ putI row (i + 1) n) :
    nextIn (putI row (i + 1) n) e = if e = c then some n else if e = n then nextIn row c else nextIn row e := by
  have hl : (putI row (i + 1) n).length = row.length + 1 := putI_len
  have lt : (row.take (i + 1)).length = i + 1 := by rw [List.length_take]; omega
  -- what stands where
  have lo : ∀ k, k ≤ i → (putI row (i + 1) n)[k]? = row[k]? := fun k hk => by
    unfold putI
    rw [List.getElem?_append_left (by omega), List.getElem?_take_of_lt (by omega)]
  have md : (putI row (i + 1) n)[i + 1]? = some n := by
    unfold putI
    rw [List.getElem?_append_right (by omega), lt, Nat.sub_self]
    rfl
  have up : ∀ k, i < k → (putI row (i + 1) n)[k + 1]? = row[k]? := fun k hk => by
    unfold putI
    rw [List.getElem?_append_right (by omega), lt, show k + 1 - (i + 1) = (k - (i + 1)) + 1 by omega, List.getElem?_cons_succ, List.getElem?_drop]
    congr 1
    omega
  have ndp : (putI row (i + 1) n).Nodup := by
    have hp : (putI row (i + 1) n).Perm (n :: row) := by
      unfold putI
      refine List.perm_middle.trans ?_
      rw [List.take_append_drop]
    exact hp.nodup_iff.mpr (List.nodup_cons.mpr ⟨hn, nd⟩)
  have hcm : c ∈ row := List.mem_of_getElem? hc
  have cn : c ≠ n := fun q => hn (q ▸ hcm)
  -- behind the last one stands the first one
  have wrap : ∀ k, k < row.length → row[(k + 1) % row.length]? = if k + 1 < row.length then row[k + 1]? else row[0]? := fun k hk => by
    split
    · rw [Nat.mod_eq_of_lt ‹_›]
    · rw [show k + 1 = row.length by omega, Nat.mod_self]
  have wrapP : ∀ k, k < row.length + 1 → (putI row (i + 1) n)[(k + 1) % (putI row (i + 1) n).length]? = if k < row.length then (putI row (i + 1) n)[k + 1]? else row[0]? := fun k hk => by
    rw [hl]
    split
    · rw [Nat.mod_eq_of_lt (by omega)]
    · rw [show k + 1 = row.length + 1 by omega, Nat.mod_self, lo 0 (by omega)]
  by_cases h1 : e = c
  · subst h1
    rw [if_pos rfl, nextIn_get (by rw [lo i (Nat.le_refl _)]; exact hc) ndp, wrapP i (by omega), if_pos hi, md]
  · rw [if_neg h1]
    by_cases h2 : e = n
    · subst h2
      rw [if_pos rfl, nextIn_get md ndp, nextIn_get hc nd, wrapP _ (by omega), wrap _ hi]
      by_cases hl2 : i + 1 < row.length
      · rw [if_pos hl2, if_pos hl2, up _ (by omega)]
      · rw [if_neg hl2, if_neg hl2]
    · rw [if_neg h2]
      have hm : e ∈ row := by
        unfold putI at he
        rcases List.mem_append.mp he with h | h
        · exact List.mem_of_mem_take h
        · rcases List.mem_cons.mp h with h | h
          · exact absurd h h2
          · exact List.mem_of_mem_drop h
      obtain ⟨k, hk, hke⟩ := List.mem_iff_getElem.mp hm
      have hk2 : row[k]? = some e := by rw [List.getElem?_eq_getElem hk, hke]
      have hki : k ≠ i := fun q => by
        subst q
        rw [hc] at hk2
        exact h1 (Option.some.inj hk2).symm
      rw [nextIn_get hk2 nd, wrap k hk]
      by_cases hlt : k < i
      · rw [nextIn_get (by rw [lo k (by omega)]; exact hk2) ndp, wrapP k (by omega), if_pos hk, lo _ (by omega), if_pos (by omega)]
      · rw [nextIn_get (by rw [up k (by omega)]; exact hk2) ndp, wrapP _ (by omega)]
        by_cases hl2 : k + 1 < row.length
        · rw [if_pos hl2, if_pos hl2, up _ (by omega)]
        · rw [if_neg hl2, if_neg hl2]
theorem nextIn_one {n : Int} : nextIn [n] n = some n := by
  rw [nextIn_get (k := 0) (row := [n]) rfl (by simp)]
  simp
/-- the rows' followers are those of s -/
structure NX (rows : List (List Int)) (s : Nat → Nat) : Prop where
  nd : ∀ (q : Nat) (row : List Int), rows[q]? = some row → row.Nodup
  nn : ∀ (q : Nat) (row : List Int), rows[q]? = some row → ∀ e ∈ row, (0 : Int) ≤ e
  dj : ∀ (q q' : Nat) (row row' : List Int), rows[q]? = some row → rows[q']? = some row' → ∀ e, e ∈ row → e ∈ row' → q = q'
  nx : ∀ (q : Nat) (row : List Int), rows[q]? = some row → ∀ x : Nat, (x : Int) ∈ row → nextIn row x = some ((s x : Nat) : Int)
theorem NX.ext {rows : List (List Int)} {s s' : Nat → Nat} (h : NX rows s) (e : ∀ (q : Nat) (row : List Int), rows[q]? = some row → ∀ x : Nat, (x : Int) ∈ row → s' x = s x) : NX rows s' :=
  ⟨h.nd, h.nn, h.dj, fun q row hq x hx => by rw [e q row hq x hx]; exact h.nx q row hq x hx⟩
theorem NX.begun {rows : List (List Int)} {s : Nat → Nat} (h : NX rows s) : NX (rows.map begI) s := by
  have at_ : ∀ {q : Nat} {row : List Int}, (rows.map begI)[q]? = some row → ∃ r0, rows[q]? = some r0 ∧ row = begI r0 := fun {q row} hq => by
    rw [List.getElem?_map] at hq
    cases hr : rows[q]? with
    | none => rw [hr] at hq; cases hq
    | some r0 => rw [hr] at hq; cases hq; exact ⟨r0, rfl, rfl⟩
  refine ⟨fun q row hq => ?_, fun q row hq e he => ?_, fun q q' row row' hq hq' e he he' => ?_, fun q row hq x hx => ?_⟩
  · obtain ⟨r0, h0, rfl⟩ := at_ hq
    exact (begI_is_rot r0).nodup (h.nd _ _ h0)
  · obtain ⟨r0, h0, rfl⟩ := at_ hq
    exact h.nn _ _ h0 e (((begI_is_rot r0).mem e).mpr he)
  · obtain ⟨r0, h0, rfl⟩ := at_ hq
    obtain ⟨r1, h1, rfl⟩ := at_ hq'
    exact h.dj _ _ _ _ h0 h1 e (((begI_is_rot r0).mem e).mpr he) (((begI_is_rot r1).mem e).mpr he')
  · obtain ⟨r0, h0, rfl⟩ := at_ hq
    have hx0 := ((begI_is_rot r0).mem (x : Int)).mpr hx
    rw [nextIn_rot (begI_is_rot r0) (h.nd _ _ h0) hx0]
    exact h.nx _ _ h0 x hx0
theorem putI_mem {row : List Int} {i : Nat} {n e : Int} : e ∈ putI row i n ↔ e = n ∨ e ∈ row := by
  have hp : (putI row i n).Perm (n :: row) := by
    unfold putI
    refine List.perm_middle.trans ?_
    rw [List.take_append_drop]
  rw [hp.mem_iff, List.mem_cons]
/-- an end put into a row behind another one, or into an empty row -/
theorem NX.put {rows : List (List Int)} {s : Nat → Nat} (h : NX rows s) {p n i : Nat} {row : List Int} (hp : rows[p]? = some row) (fresh : ∀ (q : Nat) (row : List Int), rows[q]? = some row → (n : Int) ∉ row) (hs : s n = n) {s' : Nat → Nat}
    (hi : (row = [] ∧ i = 0 ∧ s' = s) ∨ ∃ c : Nat, i < row.length ∧ row[i]? = some (c : Int) ∧ s' = fsw s c n) : NX (rows.set p (putI row (if row = [] then 0 else i + 1) n)) s' := by
  have hlt : p < rows.length := (List.getElem?_eq_some_iff.mp hp).1
  have fr := fresh p row hp
  have at_ : ∀ {q : Nat} {r : List Int}, (rows.set p (putI row (if row = [] then 0 else i + 1) n))[q]? = some r → (q = p ∧ r = putI row (if row = [] then 0 else i + 1) n) ∨ (q ≠ p ∧ rows[q]? = some r) := fun {q r} hq => by
    by_cases hqp : q = p
    · subst hqp
      rw [List.getElem?_set_self hlt] at hq
      cases hq
      exact .inl ⟨rfl, rfl⟩
    · rw [List.getElem?_set_ne (Ne.symm hqp)] at hq
      exact .inr ⟨hqp, hq⟩
  have ndp : ∀ k, (putI row k (n : Int)).Nodup := fun k => by
    have hp2 : (putI row k (n : Int)).Perm ((n : Int) :: row) := by
      unfold putI
      refine List.perm_middle.trans ?_
      rw [List.take_append_drop]
    exact hp2.nodup_iff.mpr (List.nodup_cons.mpr ⟨fr, h.nd _ _ hp⟩)
  refine ⟨fun q r hq => ?_, fun q r hq e he => ?_, fun q q' r r' hq hq' e he he' => ?_, fun q r hq x hx => ?_⟩
  · rcases at_ hq with ⟨rfl, rfl⟩ | ⟨_, hq⟩
    · exact ndp _
    · exact h.nd _ _ hq
  · rcases at_ hq with ⟨rfl, rfl⟩ | ⟨_, hq⟩
    · rcases putI_mem.mp he with rfl | he
      · omega
      · exact h.nn _ _ hp e he
    · exact h.nn _ _ hq e he
  · rcases at_ hq with ⟨rfl, rfl⟩ | ⟨n1, hqa⟩
    · rcases at_ hq' with ⟨rfl, rfl⟩ | ⟨n2, hq'⟩
      · rfl
      · rcases putI_mem.mp he with rfl | he
        · exact absurd he' (fresh _ _ hq')
        · exact h.dj _ _ _ _ hp hq' e he he'
    · rcases at_ hq' with ⟨rfl, rfl⟩ | ⟨n2, hq1⟩
      · rcases putI_mem.mp he' with rfl | he'
        · exact absurd he (fresh _ _ hqa)
        · exact h.dj _ _ _ _ hqa hp e he he'
      · exact h.dj _ _ _ _ hqa hq1 e he he'
  · rcases hi with ⟨rfl, rfl, rfl⟩ | ⟨c, hil, hic, rfl⟩
    · rcases at_ hq with ⟨rfl, rfl⟩ | ⟨nq, hq⟩
      · have hx : (x : Int) ∈ [(n : Int)] := by simpa [putI] using hx
        have hxn : x = n := by
          have := List.mem_singleton.mp hx
          omega
        subst hxn
        show nextIn [(x : Int)] (x : Int) = _
        rw [nextIn_one, hs]
      · exact h.nx _ _ hq x hx
    · have hne : row ≠ [] := fun q => by rw [q] at hil; simp at hil
      rw [if_neg hne] at at_ hq
      have hcm : (c : Int) ∈ row := List.mem_of_getElem? hic
      have cn : c ≠ n := fun q => fr (q ▸ hcm)
      rcases at_ hq with ⟨rfl, rfl⟩ | ⟨nq, hq⟩
      · rw [nextIn_put (h.nd _ _ hp) fr hil hic hx]
        unfold fsw
        by_cases h1 : x = c
        · subst h1
          rw [if_pos rfl, swp_a, hs]
        · rw [if_neg (by omega)]
          by_cases h2 : x = n
          · subst h2
            rw [if_pos rfl, swp_b]
            exact h.nx _ _ hp c hcm
          · rw [if_neg (by omega), swp_o h1 h2]
            rcases putI_mem.mp hx with hx | hx
            · exact absurd (by omega) h2
            · exact h.nx _ _ hp x hx
      · have h1 : x ≠ c := fun q => nq (h.dj _ _ _ _ hq hp x hx (q ▸ hcm))
        have h2 : x ≠ n := fun q => fresh _ _ hq (q ▸ hx)
        unfold fsw
        rw [swp_o h1 h2]
        exact h.nx _ _ hq x hx
end Lw
end

section
namespace Lw
open PySem DL
section
variable {s : Nat → Nat} {T : Nat}
end
end Lw
end

section
namespace Lw
open PySem DL
section
variable {m : Int} {ts : List (Int × Int)} {rows : List (List Int)} {c1 c2 : D} {p1 p2 : Nat}
end
end Lw
end

section
namespace Lw
open PySem DL
section
variable {m : Int} {ts : List (Int × Int)} {rows : List (List Int)} {c1 c2 : D} {p1 p2 : Nat}
end
end Lw
end

section
namespace Lw
open PySem DL
end Lw
end

section
namespace Lw
open PySem DL
section
variable {m : Int} {ts : List (Int × Int)} {rows : List (List Int)} {tie : Nat}
end
end Lw
end

section
namespace Lw
open PySem DL
section
variable {m : Int} {ts : List (Int × Int)} {rows : List (List Int)}
theorem gl2 {x y : D} : gLen [.fz (.tuple [x, y])] = some (.val (.int 2)) := by simp
end
end Lw
end

section
namespace Lw
open PySem DL
section
variable {m : Int} {ts : List (Int × Int)} {rows : List (List Int)} {c1 c2 : D} {p1 p2 : Nat}
end
end Lw
end

section
namespace Lw
open PySem DL
/-- a floor -/
structure FlR (m : Int) (ts : List (Int × Int)) (rows : List (List Int)) : Prop where
  ho : OrdN m ts (2 * ts.length) rows
  ht : TiesOk m ts
  hm : 1 ≤ m ∧ m ≤ 25
section
variable {m : Int} {ts : List (Int × Int)} {rows : List (List Int)}
theorem FlR.S (f : FlR m ts rows) (hl : ts.length ≤ 24) : ∀ row ∈ rows, row.length ≤ 48 := fun row hr => by
  obtain ⟨q, hq, rfl⟩ := List.mem_iff_getElem.mp hr
  have := (f.ho.row q _ (List.getElem?_eq_getElem hq)).len
  omega
theorem FlR.row (f : FlR m ts rows) {p : Nat} (hp : (p : Int) < m) : ∃ row, rows[p]? = some row := by
  have hl := f.ho.len
  have hm := f.hm
  exact ⟨_, List.getElem?_eq_getElem (by omega)⟩
theorem FlR.put (f : FlR m ts rows) {c1 c2 : D} {p1 p2 : Nat} (h1 : Cor m ts rows c1 p1) (h2 : Cor m ts rows c2 p2) : FlR m (putT ts p1 p2) (putRR rows p1 p2 c1 c2 ts.length) :=
  ⟨putRR_ord f.ho f.ht (h1.lt f.ht) (h2.lt f.ht), putT_ties f.ht (h1.lt f.ht) (h2.lt f.ht), f.hm⟩
end
end Lw
end

section
namespace Lw
open PySem DL
section
variable {m : Int} {ts : List (Int × Int)} {rows : List (List Int)} {c1 c2 : D} {p1 p2 : Nat}
end
end Lw
end

section
namespace Lw
open PySem DL
/-- lists that part [0, N) into rounds of f, each begun with its least -/
structure FP (f : Nat → Nat) (N : Nat) (L : List (List Nat)) : Prop where
  fl : L.flatten.Perm (List.range N)
  st : ∀ l ∈ L, ∀ j x, l[j]? = some x → l[(j + 1) % l.length]? = some (f x)
  hd : ∀ l ∈ L, ∀ x xs, l = x :: xs → ∀ y ∈ xs, x < y
section
variable {f g : Nat → Nat} {N : Nat} {L L' : List (List Nat)}
theorem FP.mem (h : FP f N L) {l : List Nat} {x : Nat} (hl : l ∈ L) (hx : x ∈ l) : x < N := by
  have := h.fl.mem_iff.mp (List.mem_flatten.mpr ⟨l, hl, hx⟩)
  exact List.mem_range.mp this
theorem FP.ex (h : FP f N L) {x : Nat} (hx : x < N) : ∃ l ∈ L, x ∈ l := List.mem_flatten.mp (h.fl.mem_iff.mpr (List.mem_range.mpr hx))
theorem FP.perm (h : FP f N L) (p : L'.Perm L) : FP f N L' := ⟨p.flatten.trans h.fl, fun l hl => h.st l (p.mem_iff.mp hl), fun l hl => h.hd l (p.mem_iff.mp hl)⟩
theorem FP.congr (h : FP f N L) (e : ∀ x, x < N → f x = g x) : FP g N L := ⟨h.fl, fun l hl j x hx => by
  rw [← e x (h.mem hl (List.mem_of_getElem? hx))]
  exact h.st l hl j x hx, h.hd⟩
theorem FP.nd (h : FP f N L) : L.flatten.Nodup := h.fl.nodup_iff.mpr List.nodup_range
theorem flat_row_nd : ∀ {L : List (List Nat)}, L.flatten.Nodup → ∀ l ∈ L, l.Nodup
  | [], _, l, h => by cases h
  | a :: L, hn, l, h => by
    rw [List.flatten_cons] at hn
    obtain ⟨n1, n2, n3⟩ := List.nodup_append.mp hn
    rcases List.mem_cons.mp h with rfl | h
    · exact n1
    · exact flat_row_nd n2 l h
/-- what stands in a list is gone through from its head on -/
theorem FP.itr (h : FP f N L) {x : Nat} {xs : List Nat} (hl : (x :: xs) ∈ L) : ∀ j, (x :: xs)[j % (xs.length + 1)]? = some (Lw.itr f j x)
  | 0 => by simp; rfl
  | j + 1 => by
    have ih := h.itr hl j
    have := h.st _ hl _ _ ih
    rw [List.length_cons, Nat.mod_add_mod] at this
    exact this
theorem FP.one (h : FP f N L) (h' : FP f N L') {l : List Nat} (hl : l ∈ L) (hne : l ≠ []) : l ∈ L' := by
  obtain ⟨x, xs, rfl⟩ := List.exists_cons_of_ne_nil hne
  have hx := h.mem hl (List.mem_cons_self ..)
  obtain ⟨k, hk, hxk⟩ := h'.ex hx
  cases k with
  | nil => cases hxk
  | cons y ys =>
    have i1 := h.itr hl
    have i2 := h'.itr hk
    -- each goes through the other
    obtain ⟨j, hj⟩ := List.mem_iff_getElem?.mp hxk
    have hjl := (List.getElem?_eq_some_iff.mp hj).1
    have ej : Lw.itr f j y = x := by
      have := i2 j
      rw [Nat.mod_eq_of_lt (by simpa using hjl), hj] at this
      exact (Option.some.inj this).symm
    have per2 : Lw.itr f (ys.length + 1) y = y := by
      have := i2 (ys.length + 1)
      rw [Nat.mod_self] at this
      exact (Option.some.inj this).symm
    have ey : Lw.itr f (ys.length + 1 - j) x = y := by
      rw [← ej, ← itr_add, show ys.length + 1 - j + j = ys.length + 1 by simp at hjl; omega, per2]
    have hy : y ∈ x :: xs := by
      have := i1 (ys.length + 1 - j)
      rw [ey] at this
      exact List.mem_of_getElem? this
    have exy : x = y := by
      rcases List.mem_cons.mp hy with q | q
      · exact q.symm
      · have a := h.hd _ hl x xs rfl y q
        rcases List.mem_cons.mp hxk with q2 | q2
        · exact q2
        · have b := h'.hd _ hk y ys rfl x q2
          omega
    subst exy
    have nd1 := flat_row_nd h.nd _ hl
    have nd2 := flat_row_nd h'.nd _ hk
    have le : ∀ {a b : List Nat}, (x :: a).Nodup → (∀ j, (x :: a)[j % (a.length + 1)]? = some (Lw.itr f j x)) → (∀ j, (x :: b)[j % (b.length + 1)]? = some (Lw.itr f j x)) → a.length ≤ b.length := fun {a b} nd ia ib => by
      apply Classical.byContradiction
      intro hc
      have h1 := ia (b.length + 1)
      have h2 := ib (b.length + 1)
      rw [Nat.mod_self] at h2
      rw [Nat.mod_eq_of_lt (by omega), ← h2] at h1
      have : (0 : Nat) = b.length + 1 := (List.getElem?_inj (by simp) nd).mp (show (x :: a)[0]? = (x :: a)[b.length + 1]? by rw [h1]; rfl)
      omega
    have el : xs.length = ys.length := Nat.le_antisymm (le nd1 i1 i2) (le nd2 i2 i1)
    have : x :: xs = x :: ys := by
      apply List.ext_getElem?
      intro j
      by_cases hj : j < xs.length + 1
      · have a := i1 j
        have b := i2 j
        rw [Nat.mod_eq_of_lt hj] at a
        rw [Nat.mod_eq_of_lt (by omega)] at b
        rw [a, b]
      · rw [List.getElem?_eq_none (by simp; omega), List.getElem?_eq_none (by simp; omega)]
    rw [this]
    exact hk
theorem ne_nodup : ∀ {L : List (List Nat)}, L.flatten.Nodup → (L.filter fun l => !l.isEmpty).Nodup
  | [], _ => by simp
  | a :: L, hn => by
    rw [List.flatten_cons] at hn
    obtain ⟨n1, n2, n3⟩ := List.nodup_append.mp hn
    have ih := ne_nodup n2
    rw [List.filter_cons]
    split
    · rename_i hne
      refine List.nodup_cons.mpr ⟨fun h => ?_, ih⟩
      obtain ⟨h1, _⟩ := List.mem_filter.mp h
      cases a with
      | nil => simp at hne
      | cons x xs => exact absurd rfl (n3 x (by simp) x (List.mem_flatten.mpr ⟨_, h1, by simp⟩))
    · exact ih
def emp (L : List (List Nat)) : Nat := (L.filter fun l => l.isEmpty).length
theorem FP.uniq (h : FP f N L) (h' : FP f N L') (he : emp L = emp L') : L.Perm L' := by
  have p1 : (L.filter fun l => !l.isEmpty).Perm (L'.filter fun l => !l.isEmpty) := by
    refine (List.perm_ext_iff_of_nodup (ne_nodup h.nd) (ne_nodup h'.nd)).mpr fun l => ?_
    rw [List.mem_filter, List.mem_filter]
    constructor
    · rintro ⟨a, b⟩
      exact ⟨h.one h' a (by rintro rfl; simp at b), b⟩
    · rintro ⟨a, b⟩
      exact ⟨h'.one h a (by rintro rfl; simp at b), b⟩
  have p2 : (L.filter fun l => l.isEmpty) = (L'.filter fun l => l.isEmpty) := by
    have key : ∀ L : List (List Nat), (L.filter fun l => l.isEmpty) = List.replicate (emp L) [] := fun L => by
      refine List.eq_replicate_iff.mpr ⟨rfl, fun l hl => ?_⟩
      have := (List.mem_filter.mp hl).2
      simpa using this
    rw [key L, key L', he]
  have q : ∀ L : List (List Nat), ((L.filter fun l => l.isEmpty) ++ (L.filter fun l => !l.isEmpty)).Perm L := fun L => List.filter_append_perm _ _
  refine (q L).symm.trans (List.Perm.trans ?_ (q L'))
  rw [p2]
  exact List.Perm.append_left _ p1
end
end Lw
end

section
namespace Lw
open PySem DL
section
variable {f g : Nat → Nat} {n : Nat} {L L' : List (List Nat)}
end
section
variable {m : Int} {ts : List (Int × Int)} {rows : List (List Int)} {Ls : List (List Nat)}
end
end Lw
end

section
namespace Lw
open PySem DL
section
variable {m : Int} {ts : List (Int × Int)} {rows : List (List Int)} {Ls : List (List Nat)}
end
end Lw
end

section
namespace Lw
open PySem DL
section
variable {f : Nat → Nat} {n : Nat} {L : List (List Nat)}
end
end Lw
end

section
namespace Lw
open PySem DL
/-- lists that part [0, N) into rounds of f, begun anywhere -/
structure FQ (f : Nat → Nat) (N : Nat) (L : List (List Nat)) : Prop where
  fl : L.flatten.Perm (List.range N)
  st : ∀ l ∈ L, ∀ j x, l[j]? = some x → l[(j + 1) % l.length]? = some (f x)
theorem FP.q {f : Nat → Nat} {N : Nat} {L : List (List Nat)} (h : FP f N L) : FQ f N L := ⟨h.fl, h.st⟩
/-- a face as a tuple or a list -/
def faceB (b : Bool) (l : List Nat) : D := if b then tupN l else .list ((intsN l).map .int)
/-- a table: its faces, each a tuple or a list -/
structure TabOk (T : D) (M : List (List Nat)) : Prop where
  ex : ∃ bs : List Bool, bs.length = M.length ∧ (T = .list ((bs.zip M).map fun p => faceB p.1 p.2) ∨ T = .tuple ((bs.zip M).map fun p => faceB p.1 p.2))
theorem TabOk.row {T : D} {M : List (List Nat)} (h : TabOk T M) : ∃ bs : List Bool, bs.length = M.length ∧ rowOf T = some ((bs.zip M).map fun p => faceB p.1 p.2) := by
  obtain ⟨bs, h1, h⟩ := h.ex
  exact ⟨bs, h1, by rcases h with rfl | rfl <;> rfl⟩
section
variable {f : Nat → Nat} {n : Nat} {M : List (List Nat)} {T : D}
end
end Lw
end

section
namespace Lw
open PySem DL
section
variable {f : Nat → Nat} {N B : Nat} {L : List (List Nat)}
theorem orb_head (s : Stp f (· < N) B) {x : Nat} (hx : x < N) : ∃ xs, orb f x = x :: xs := by
  have h0 := orb_get (f := f) (x := x) (n := 0) (by have := (s.per hx).1; omega)
  cases hc : orb f x with
  | nil => rw [hc] at h0; cases h0
  | cons y ys =>
    rw [hc] at h0
    cases h0
    exact ⟨ys, rfl⟩
/-- rounds from their least ones, behind empty lists -/
noncomputable def rowsR (f : Nat → Nat) (e N : Nat) : List (List Nat) := List.replicate e [] ++ (repsN f N).map (orb f)
theorem rowsR_cases (s : Stp f (· < N) B) {e : Nat} {l : List Nat} (h : l ∈ rowsR f e N) : l = [] ∨ ∃ x, x < N ∧ isLo f x ∧ l = orb f x := by
  unfold rowsR at h
  rcases List.mem_append.mp h with h | h
  · exact .inl (List.eq_of_mem_replicate h)
  · obtain ⟨x, hx, rfl⟩ := List.mem_map.mp h
    obtain ⟨h1, h2⟩ := reps_mem.mp hx
    exact .inr ⟨x, h1, h2, rfl⟩
theorem fp_reps (st : Stp f (· < N) B) (e : Nat) : FP f N (rowsR f e N) := by
  refine ⟨?_, fun l hl j x hx => ?_, fun l hl x xs e y hy => ?_⟩
  · refine (List.perm_ext_iff_of_nodup ?_ List.nodup_range).mpr fun z => ?_
    · rw [List.nodup_iff_pairwise_ne, List.pairwise_flatten]
      refine ⟨fun l hl => ?_, ?_⟩
      · rcases rowsR_cases st hl with rfl | ⟨x, hx, _, rfl⟩
        · exact .nil
        · exact List.nodup_iff_pairwise_ne.mp (orb_nodup st hx)
      · unfold rowsR
        rw [List.pairwise_append]
        refine ⟨?_, ?_, ?_⟩
        · refine List.pairwise_of_forall_mem_list fun a ha b _ x hx => ?_
          rw [List.eq_of_mem_replicate ha] at hx
          cases hx
        · rw [List.pairwise_map]
          have nd : (repsN f N).Pairwise (· ≠ ·) := by
            unfold repsN
            exact List.nodup_iff_pairwise_ne.mp (List.nodup_range.filter _)
          refine List.Pairwise.imp_of_mem (fun {a b} ha hb hab x hx y hy e => ?_) nd
          subst e
          obtain ⟨ha1, ha2⟩ := reps_mem.mp ha
          obtain ⟨hb1, hb2⟩ := reps_mem.mp hb
          exact hab (lo_uniq st hb1 (orb_disj st hb1 ha1 hy hx) hb2 ha2)
        · intro a ha b _ x hx
          rw [List.eq_of_mem_replicate ha] at hx
          cases hx
    · rw [List.mem_flatten, List.mem_range]
      constructor
      · rintro ⟨l, hl, he⟩
        rcases rowsR_cases st hl with rfl | ⟨x, hx, _, rfl⟩
        · cases he
        · exact orb_P st hx he
      · intro he
        obtain ⟨i, hi, hlo⟩ := lo_ex st he
        have he2 := st.itr he i
        refine ⟨orb f (itr f i z), ?_, orb_symm st he ((mem_orb st he).mpr ⟨i, rfl⟩)⟩
        unfold rowsR
        exact List.mem_append.mpr (.inr (List.mem_map.mpr ⟨_, reps_mem.mpr ⟨he2, hlo⟩, rfl⟩))
  · rcases rowsR_cases st hl with rfl | ⟨z, hz, hlo, rfl⟩
    · simp at hx
    · have hj := (List.getElem?_eq_some_iff.mp hx).1
      rw [orb_len] at hj ⊢
      rw [orb_get hj] at hx
      cases hx
      have hp := st.per hz
      rw [orb_get (Nat.mod_lt _ hp.1), ← st.mod hz]
      rfl
  · rcases rowsR_cases st hl with rfl | ⟨z, hz, hlo, rfl⟩
    · cases e
    · obtain ⟨zs, h0⟩ := orb_head st hz
      have nd := orb_nodup st hz
      rw [h0] at e nd
      cases e
      have h1 := hlo y (by rw [h0]; exact List.mem_cons_of_mem _ hy)
      have : x ≠ y := fun w => (List.nodup_cons.mp nd).1 (w ▸ hy)
      omega
/-- a list that parts is its head's round -/
theorem FP.orb (h : FP f N L) (st : Stp f (· < N) B) {x : Nat} {xs : List Nat} (hl : (x :: xs) ∈ L) : x :: xs = Lw.orb f x := by
  have h2 : FP f N (rowsR f 0 N) := fp_reps st 0
  have hm := h.one h2 hl (by simp)
  rcases rowsR_cases st hm with q | ⟨z, hz, _, q⟩
  · cases q
  · obtain ⟨zs, h3⟩ := orb_head st hz
    rw [h3] at q
    cases q
    rw [h3]
end
section
variable {f : Nat → Nat} {n B : Nat} {M : List (List Nat)} {T : D}
end
end Lw
end

section
namespace Lw
open PySem DL
section
variable {m : Int} {ts : List (Int × Int)}
end
end Lw
end

section
namespace Lw
open PySem DL
section
variable {ts : List (Int × Int)} {zs : List Int} {f : Nat}
inductive WayTo (ts : List (Int × Int)) (f : Nat) : Nat → List Nat → Prop
  | nil : WayTo ts f f []
  | snoc {p q e : Nat} {w : List Nat} : WayTo ts f p w → e < 2 * ts.length → plc ts e = (p : Int) → plc ts (ptn e) = (q : Int) → WayTo ts f q (w ++ [e])
/-- the crossings met on a way -/
def wCr (zs : List Int) (w : List Nat) : Int := (w.map fun e => zs.getD (e / 2) 0).sum
theorem wCr_snoc {w : List Nat} {e : Nat} : wCr zs (w ++ [e]) = wCr zs w + zs.getD (e / 2) 0 := by simp [wCr]
theorem WayTo.all {q : Nat} {w : List Nat} (h : WayTo ts f q w) : ∀ e ∈ w, e < 2 * ts.length := by
  induction h with
  | nil => simp
  | snoc _ he _ _ ih =>
    intro x hx
    rcases List.mem_append.mp hx with h | h
    · exact ih x h
    · rw [List.mem_singleton.mp h]; exact he
/-- given sides that are right at all ties give the parity of every way -/
theorem WayTo.side {g : Nat → Int} (hg : ∀ e p q : Nat, e < 2 * ts.length → plc ts e = (p : Int) → plc ts (ptn e) = (q : Int) → (g p + zs.getD (e / 2) 0) % 2 = g q % 2) {q : Nat} {w : List Nat} (h : WayTo ts f q w) : (g f + wCr zs w) % 2 = g q % 2 := by
  induction h with
  | nil => simp [wCr]
  | snoc _ he h1 h2 ih =>
    have := hg _ _ _ he h1 h2
    rw [wCr_snoc]
    omega
end
end Lw
end

section
namespace Lw
open PySem DL
section
variable {m : Int} {ts : List (Int × Int)} {zs : List Int} {f : Nat}
/-- a place with its side and its way -/
abbrev Pw := Nat × Int × List Nat
/-- what is known of the places found: k of them are gone through, of the next one's ends those in `done` -/
structure WL (m : Int) (ts : List (Int × Int)) (zs : List Int) (f : Nat) (L : List Pw) (k : Nat) (dn : List Nat) : Prop where
  nd : (L.map (·.1)).Nodup
  hd : L[0]? = some (f, 0, [])
  ok : ∀ t ∈ L, (t.1 : Int) < m ∧ t.2.1 = wCr zs t.2.2 % 2 ∧ WayTo ts f t.1 t.2.2
  kl : k ≤ L.length
  sh : ∀ t ∈ L, t.2.2.length < L.length
  cl : ∀ i t, i < k → L[i]? = some t → ∀ e q : Nat, e < 2 * ts.length → plc ts e = (t.1 : Int) → plc ts (ptn e) = (q : Int) → q ∈ L.map (·.1)
  cn : ∀ e ∈ dn, ∀ q : Nat, plc ts (ptn e) = (q : Int) → q ∈ L.map (·.1)
theorem WL.next {L : List Pw} {k : Nat} {dn : List Nat} (h : WL m ts zs f L k dn) (hk : k < L.length) (hdn : ∀ t, L[k]? = some t → ∀ e, e < 2 * ts.length → plc ts e = (t.1 : Int) → e ∈ dn) : WL m ts zs f L (k + 1) [] := by
  refine ⟨h.nd, h.hd, h.ok, by omega, h.sh, fun i t hi e1 e q he h1 h2 => ?_, by simp⟩
  by_cases hik : i < k
  · exact h.cl i t hik e1 e q he h1 h2
  · have : i = k := by omega
    subst this
    exact h.cn e (hdn t e1 e he h1) q h2
end
end Lw
end

section
namespace Lw
open PySem DL
section
variable {L : List Pw}
end
end Lw
end

section
namespace Lw
open PySem DL
section
variable {m : Int} {ts : List (Int × Int)} {zs : List Int} {f : Nat}
theorem WL.few {L : List Pw} {k : Nat} {dn : List Nat} (h : WL m ts zs f L k dn) (hk : k < L.length) : (k : Int) < m := by
  have h2 := nodup_len m.toNat (L.map (·.1)) h.nd fun x hx => by
    obtain ⟨t, ht, rfl⟩ := List.mem_map.mp hx
    have := (h.ok t ht).1
    omega
  rw [List.length_map] at h2
  omega
end
end Lw
end

section
namespace Lw
open PySem DL
section
variable {m : Int} {ts : List (Int × Int)} {zs : List Int} {f : Nat}
theorem mark_min (ht : TiesOk m ts) {Q : Nat → Nat → Prop} (rf : ∀ x, Q x x) (sy : ∀ x y, Q x y → Q y x) (tr : ∀ x y z, Q x y → Q y z → Q x z) (tie : ∀ k, k < ts.length → Q (plN ts (2 * k)) (plN ts (2 * k + 1))) {x y : Nat} (hx : x < m.toNat) (hy : y < m.toNat)
    (h : mkAt (marks m ts) (x : Int) = mkAt (marks m ts) (y : Int)) : Q x y := by
  have hg := hang ht
  have key : ∀ k, k ≤ ts.length → ∀ x y, x < m.toNat → y < m.toNat → hangR m ts k x y → Q x y := fun k => by
    induction k with
    | zero => exact fun _ x y hx hy h => ((hg.zero x y hx hy).mp h) ▸ rf x
    | succ k ih =>
      intro hk x y hx hy h
      have q0 := tie k (by omega)
      have b1 := (plN_cast ht (x := 2 * k) (by omega)).2
      have b2 := (plN_cast ht (x := 2 * k + 1) (by omega)).2
      rcases (hg.succ k (by omega) x y hx hy).mp h with h | ⟨h1, h2⟩ | ⟨h1, h2⟩
      · exact ih (by omega) x y hx hy h
      · exact tr _ _ _ (ih (by omega) _ _ hx b1 h1) (tr _ _ _ q0 (ih (by omega) _ _ b2 hy h2))
      · exact tr _ _ _ (ih (by omega) _ _ hx b2 h1) (tr _ _ _ (sy _ _ q0) (ih (by omega) _ _ b1 hy h2))
  refine key ts.length (Nat.le_refl _) x y hx hy ?_
  unfold hangR
  rw [List.take_length]
  exact h
theorem WayTo.mark (ht : TiesOk m ts) {q : Nat} {w : List Nat} (h : WayTo ts f q w) : mkAt (marks m ts) (q : Int) = mkAt (marks m ts) (f : Int) := by
  induction h with
  | nil => rfl
  | snoc _ he h1 h2 ih =>
    rename_i p q e w _
    have h := marks_tie ht (k := e / 2) (by omega)
    rw [← ih, ← h1, ← h2]
    unfold ptn
    by_cases hx2 : e % 2 = 0
    · rw [if_pos hx2]
      rw [show 2 * (e / 2) = e by omega] at h
      exact h.symm
    · rw [if_neg hx2]
      rw [show 2 * (e / 2) + 1 = e by omega, show 2 * (e / 2) = e - 1 by omega] at h
      exact h
theorem WL.all (ht : TiesOk m ts) {L : List Pw} (h : WL m ts zs f L L.length []) {q : Nat} (hq : (q : Int) < m) : q ∈ L.map (·.1) ↔ mkAt (marks m ts) (q : Int) = mkAt (marks m ts) (f : Int) := by
  have h0 := h.ok _ (List.mem_of_getElem? h.hd)
  have hf : f ∈ L.map (·.1) := List.mem_map_of_mem (f := fun t : Pw => t.1) (List.mem_of_getElem? h.hd)
  have hf2 : (f : Int) < m := h0.1
  have cl : ∀ e, e < 2 * ts.length → plN ts e ∈ L.map (·.1) → plN ts (ptn e) ∈ L.map (·.1) := fun e he hp => by
    obtain ⟨t, ht1, ht2⟩ := List.mem_map.mp hp
    obtain ⟨i, hi⟩ := List.mem_iff_getElem?.mp ht1
    have hpt : ptn e < 2 * ts.length := by unfold ptn; split <;> omega
    exact h.cl i t (List.getElem?_eq_some_iff.mp hi).1 hi e (plN ts (ptn e)) he (by rw [← (plN_cast ht he).1, ht2]) (plN_cast ht hpt).1.symm
  constructor
  · intro hm
    obtain ⟨t, ht1, rfl⟩ := List.mem_map.mp hm
    exact (h.ok t ht1).2.2.mark ht
  · intro he
    refine (mark_min ht (Q := fun x y => x ∈ L.map (fun t : Pw => t.1) ↔ y ∈ L.map (fun t : Pw => t.1)) (fun _ => Iff.rfl) (fun _ _ h => h.symm) (fun _ _ _ h1 h2 => h1.trans h2) (fun k hk => ?_) (by omega) (by omega) he).mpr hf
    constructor
    · intro h1
      have := cl (2 * k) (by omega) h1
      rwa [show ptn (2 * k) = 2 * k + 1 by unfold ptn; rw [if_pos (by omega)]] at this
    · intro h1
      have := cl (2 * k + 1) (by omega) h1
      rwa [show ptn (2 * k + 1) = 2 * k by unfold ptn; rw [if_neg (by omega)]; omega] at this
end
end Lw
end

section
namespace Lw
open PySem DL
section
variable {m : Int} {ts : List (Int × Int)} {zs : List Int} {f : Nat} {L : List Pw}
end
end Lw
end

section
namespace Lw
open PySem DL
section
variable {m : Int} {ts : List (Int × Int)} {zs : List Int} {f : Nat}
/-- ends that lead round, crossed an odd number of times -/
structure RingR (ts : List (Int × Int)) (zs ns : List Int) : Prop where
  ne : ns ≠ []
  bd : ∀ n ∈ ns, 0 ≤ n ∧ n < 2 * (ts.length : Int)
  rd : ∀ (k : Nat) (e e' : Int), ns[k]? = some e → ns[(k + ns.length - 1) % ns.length]? = some e' → plc ts e.toNat = plc ts (ptn e'.toNat)
  od : (ns.map fun e => zs.getD (e.toNat / 2) 0).sum % 2 = 1
/-- right sides -/
structure TwoR (m : Int) (ts : List (Int × Int)) (zs gs : List Int) : Prop where
  len : gs.length = m.toNat
  ok : ∀ g ∈ gs, g = 0 ∨ g = 1
  fst : ∀ f ∈ dsort (marks m ts), ∀ a l, grp (marks m ts) f = a :: l → gs.getD a.toNat 0 = 0
  tie : ∀ (k : Nat) (t : Int × Int), ts[k]? = some t → (gs.getD t.1.toNat 0 + zs.getD k 0 + gs.getD t.2.toNat 0) % 2 = 0
def tupZ (ns : List Int) : D := .tuple (ns.map .int)
def oneD (ns : List Int) : D := .tuple [.str (Str.ofString "one"), tupZ ns]
def twoD (gs : List Int) : D := .tuple [.str (Str.ofString "two"), tupZ gs]
theorem WayTo.back {q : Nat} {w : List Nat} (h : WayTo ts f q w) : ∀ {g : Nat} {u : List Nat}, WayTo ts g q u → WayTo ts g f (u ++ w.reverse.map ptn) := by
  induction h with
  | nil => intro g u hu; simpa using hu
  | snoc hw he h1 h2 ih =>
    rename_i p q e w
    intro g u hu
    have hpe : ptn e < 2 * ts.length := ptn_lt he
    have := ih (hu.snoc hpe h2 (by rw [ptn_ptn]; exact h1))
    simpa [List.append_assoc] using this
theorem WayTo.ring {q : Nat} {w : List Nat} (h : WayTo ts f q w) : (∀ k e e' : Nat, w[k + 1]? = some e → w[k]? = some e' → plc ts e = plc ts (ptn e')) ∧ (∀ e, w[0]? = some e → plc ts e = (f : Int)) ∧ (∀ e, w ≠ [] → w[w.length - 1]? = some e → plc ts (ptn e) = (q : Int)) ∧ (w = [] → q = f) := by
  induction h with
  | nil => simp
  | snoc hw he h1 h2 ih =>
    rename_i p q e w
    obtain ⟨i1, i2, i3, i4⟩ := ih
    refine ⟨fun k x x' hx hx' => ?_, fun x hx => ?_, fun x _ hx => ?_, fun h => by simp at h⟩
    · by_cases hk : k + 1 < w.length
      · rw [List.getElem?_append_left hk] at hx
        rw [List.getElem?_append_left (by omega)] at hx'
        exact i1 k x x' hx hx'
      · have hlt := (List.getElem?_eq_some_iff.mp hx).1
        rw [List.length_append, List.length_singleton] at hlt
        have hke : k + 1 = w.length := by omega
        rw [hke, List.getElem?_append_right (Nat.le_refl _), Nat.sub_self] at hx
        simp at hx
        subst hx
        rw [List.getElem?_append_left (by omega)] at hx'
        rw [h1, i3 x' (by rintro rfl; simp at hke) (by rw [show w.length - 1 = k by omega]; exact hx')]
    · cases w with
      | nil =>
        simp at hx
        subst hx
        rw [h1, i4 rfl]
      | cons y w => exact i2 x (by simpa using hx)
    · rw [List.length_append, List.length_singleton, Nat.add_sub_cancel, List.getElem?_append_right (Nat.le_refl _), Nat.sub_self] at hx
      simp at hx
      subst hx
      exact h2
end
end Lw
end

section
namespace Lw
open PySem DL
section
variable {m : Int} {ts : List (Int × Int)} {zs : List Int} {f : Nat}
/-- the first j parts have their sides -/
structure Gv (m : Int) (ts : List (Int × Int)) (zs : List Int) (j : Nat) (gs : List Int) : Prop where
  len : gs.length = m.toNat
  ok : ∀ g ∈ gs, g = 0 ∨ g = 1
  fst : ∀ (i : Nat) (f : Int), i < j → (dsort (marks m ts))[i]? = some f → ∀ a l, grp (marks m ts) f = a :: l → gs.getD a.toNat 0 = 0
  tie : ∀ (k : Nat) (t : Int × Int), ts[k]? = some t → (∃ i, i < j ∧ (dsort (marks m ts))[i]? = some (mkAt (marks m ts) t.1)) → (gs.getD t.1.toNat 0 + zs.getD k 0 + gs.getD t.2.toNat 0) % 2 = 0
/-- what sides tells -/
def SidesR (m : Int) (ts : List (Int × Int)) (zs : List Int) (d : D) : Prop := (∃ ns, d = oneD ns ∧ ns.length ≤ 1000 ∧ RingR ts zs ns) ∨ ∃ gs, d = twoD gs ∧ TwoR m ts zs gs
theorem Gv.two (ht : TiesOk m ts) {gs : List Int} (h : Gv m ts zs (dsort (marks m ts)).length gs) : TwoR m ts zs gs := by
  refine ⟨h.len, h.ok, fun f hf a l e => ?_, fun k t hk => ?_⟩
  · obtain ⟨i, hi⟩ := List.mem_iff_getElem?.mp hf
    exact h.fst i f (List.getElem?_eq_some_iff.mp hi).1 hi a l e
  · have htm := ht t (List.mem_of_getElem? hk)
    have : mkAt (marks m ts) t.1 ∈ dsort (marks m ts) := dsort_mem.mpr (List.mem_of_getElem? (mkAt_ok htm.1.1 (by rw [marks_len]; omega)).2)
    obtain ⟨i, hi⟩ := List.mem_iff_getElem?.mp this
    exact h.tie k t hk ⟨i, (List.getElem?_eq_some_iff.mp hi).1, hi⟩
/-- one part more -/
theorem Gv.next (ht : TiesOk m ts) {gs g2 : List Int} {j a : Nat} {g : Int} {l : List Int} {L : List Pw} (h : Gv m ts zs j gs) (hj : (dsort (marks m ts))[j]? = some g) (hg : grp (marks m ts) g = (a : Int) :: l) (hma : mkAt (marks m ts) (a : Int) = g) (hw : WL m ts zs a L L.length []) (hl : g2.length = m.toNat) (ho : ∀ x ∈ g2, x = 0 ∨ x = 1)
    (h1 : ∀ t : Pw, t ∈ L → g2.getD t.1 0 = t.2.1) (h2 : ∀ q : Nat, (q : Int) ∉ grp (marks m ts) g → g2.getD q 0 = gs.getD q 0)
    (h3 : ∀ (k' : Nat) (t : Int × Int), ts[k']? = some t → t.1.toNat ∈ L.map (fun u : Pw => u.1) → (g2.getD t.1.toNat 0 + zs.getD k' 0 + g2.getD t.2.toNat 0) % 2 = 0) : Gv m ts zs (j + 1) g2 := by
  have nd : (dsort (marks m ts)).Nodup := (dsort_pw _).imp fun h => by omega
  have other : ∀ (i : Nat) (f : Int), i < j → (dsort (marks m ts))[i]? = some f → f ≠ g := fun i f hi e1 e2 => by
    subst e2
    have := (List.getElem?_inj (List.getElem?_eq_some_iff.mp e1).1 nd).mp (e1.trans hj.symm)
    omega
  refine ⟨hl, ho, fun i f hi hf b l' hb => ?_, fun k t hk ⟨i, hi, hf⟩ => ?_⟩
  · have hbm : b ∈ grp (marks m ts) f := by rw [hb]; exact List.mem_cons_self
    obtain ⟨b0, b1, b2⟩ := grp_mem.mp hbm
    by_cases hij : i < j
    · rw [h2 b.toNat fun hm => other i f hij hf (by rw [← b2]; have := (grp_mem.mp hm).2.2; rw [show ((b.toNat : Nat) : Int) = b by omega] at this; exact this)]
      exact h.fst i f hij hf b l' hb
    · have : i = j := by omega
      subst this
      rw [hj] at hf
      cases hf
      rw [hg] at hb
      cases hb
      have := h1 _ (List.mem_of_getElem? hw.hd)
      rw [Int.toNat_natCast]
      exact this
  · have htm := ht t (List.mem_of_getElem? hk)
    have hkl := (List.getElem?_eq_some_iff.mp hk).1
    have mt := marks_tie ht hkl
    rw [(plc_tie hk).1, (plc_tie hk).2] at mt
    by_cases hij : i < j
    · have q1 : ∀ x : Int, 0 ≤ x → mkAt (marks m ts) x = mkAt (marks m ts) t.1 → g2.getD x.toNat 0 = gs.getD x.toNat 0 := fun x hx e => h2 x.toNat fun hm => other i _ hij hf (by
        have := (grp_mem.mp hm).2.2
        rw [show ((x.toNat : Nat) : Int) = x by omega, e] at this
        exact this)
      rw [q1 t.1 htm.1.1 rfl, q1 t.2 htm.2.1 mt.symm]
      exact h.tie k t hk ⟨i, hij, hf⟩
    · have : i = j := by omega
      subst this
      rw [hj] at hf
      injection hf with hf
      refine h3 k t hk ((hw.all ht (by omega)).mpr ?_)
      rw [show ((t.1.toNat : Nat) : Int) = t.1 by omega, ← hf, hma]
end
end Lw
end

section
namespace Lw
open PySem DL
section
variable {m : Int} {ts : List (Int × Int)} {zs : List Int}
theorem boolsD_map {α : Type} (p : α → Bool) (l : List α) : boolsD (l.map fun x => PyData.bool (p x)) = some (l.map p) := by
  induction l with
  | nil => rfl
  | cons x l ih => simp [boolsD, ih]
theorem gAll_map {α : Type} (p : α → Bool) (l : List α) : gAll [.fz (.list (l.map fun x => PyData.bool (p x)))] = some (.val (.bool (l.all p))) := by
  show (boolsD _).map _ = _
  rw [boolsD_map]
  show some (RV.val (PyData.bool ((l.map p).all id))) = _
  rw [List.all_map]
  rfl
end
end Lw
end

section
namespace Lw
open PySem DL
section
variable {m : Int} {ts : List (Int × Int)} {zs : List Int}
end
end Lw
end

section
namespace Lw
open PySem DL
end Lw
end

section
namespace Lw
open PySem DL
section
variable {m : Int} {ts : List (Int × Int)} {zs : List Int}
end
end Lw
end

section
namespace Lw
open PySem DL
section
variable {m : Int} {ts : List (Int × Int)} {zs : List Int}
end
end Lw
end

section
namespace Lw
open PySem DL
section
variable {m : Int} {ts : List (Int × Int)} {zs : List Int}
/-- data that can be laid, so deep -/
def LayD (k : Nat) (d : D) : Prop := d.canLay0 = true ∧ d.depth ≤ k
theorem LayD.gEq {k : Nat} {d : D} (h : LayD k d) (hk : k ≤ 40) : gEq [.fz d, .fz d] = some (.val (.bool true)) := by
  have o : DL.okD d = true := by unfold DL.okD; rw [h.1, decide_eq_true (by have := h.2; omega)]; rfl
  show (if DL.okD d && DL.okD d then some (RV.val (.bool (PyData.eqv d d))) else none) = _
  rw [o, PySem.SeqAt.eqv_refl d h.1]
  rfl
theorem LayD.gNe {k : Nat} {d : D} (h : LayD k d) (hk : k ≤ 40) : gNe [.fz d, .fz d] = some (.val (.bool false)) := by
  have o : DL.okD d = true := by unfold DL.okD; rw [h.1, decide_eq_true (by have := h.2; omega)]; rfl
  show (if DL.okD d && DL.okD d then some (RV.val (.bool (!PyData.eqv d d))) else none) = _
  rw [o, PySem.SeqAt.eqv_refl d h.1]
  rfl
theorem LayD.list {k : Nat} {ds : List D} (h : ∀ d ∈ ds, LayD k d) : LayD (k + 1) (.list ds) := by
  refine ⟨by simp only [PyData.canLay0]; exact lay_all fun d hd => (h d hd).1, ?_⟩
  simp only [PyData.depth]
  have := dep_all (k := k) fun d hd => (h d hd).2
  omega
theorem LayD.tuple {k : Nat} {ds : List D} (h : ∀ d ∈ ds, LayD k d) : LayD (k + 1) (.tuple ds) := by
  refine ⟨by simp only [PyData.canLay0]; exact lay_all fun d hd => (h d hd).1, ?_⟩
  simp only [PyData.depth]
  have := dep_all (k := k) fun d hd => (h d hd).2
  omega
theorem LayD.int {k : Nat} {n : Int} : LayD k (.int n) := ⟨by simp [PyData.canLay0], by simp [PyData.depth]⟩
theorem LayD.str {k : Nat} {x : Str} (h : PyData.strOk x = true) : LayD k (.str x) := ⟨by simp [PyData.canLay0, h], by simp [PyData.depth]⟩
theorem LayD.tupZ {k : Nat} {ns : List Int} : LayD (k + 1) (tupZ ns) := LayD.tuple fun d hd => by
  obtain ⟨n, _, rfl⟩ := List.mem_map.mp hd
  exact LayD.int
theorem oneD_lay {ns : List Int} : LayD 2 (oneD ns) := LayD.tuple fun d hd => by
  rcases List.mem_cons.mp hd with rfl | hd
  · exact LayD.str (by decide +kernel)
  · rw [List.mem_singleton.mp hd]; exact LayD.tupZ
theorem twoD_lay {ns : List Int} : LayD 2 (twoD ns) := LayD.tuple fun d hd => by
  rcases List.mem_cons.mp hd with rfl | hd
  · exact LayD.str (by decide +kernel)
  · rw [List.mem_singleton.mp hd]; exact LayD.tupZ
theorem SidesR.lay {d : D} (h : SidesR m ts zs d) : LayD 2 d := by
  rcases h with ⟨_, rfl, _⟩ | ⟨_, rfl, _⟩
  · exact oneD_lay
  · exact twoD_lay
end
end Lw
end

section
namespace Lw
open PySem DL
def plainB : D → Bool
  | .dict (_ :: _) => false
  | _ => true
def intB : D → Bool
  | .int _ => true
  | _ => false
theorem is_whole_any {d : D} (h : plainB d = true) : Oks sem_is_whole_637d [.fz d] fun v ys => v = .ok (.val (.bool (intB d))) ∧ ys = [.fz d] := by
  refine oks_def rfl ?_
  have a : ∀ e : D, plainB e = true → ∃ b, anyTy [.int] e = some b ∧ ∃ c, anyTy [.bool] e = some c ∧ (b && !c) = intB e := fun e he => by
    cases e with
    | dict kvs => cases kvs with
      | nil => exact ⟨_, rfl, _, rfl, rfl⟩
      | cons a b => cases he
    | _ => exact ⟨_, rfl, _, rfl, rfl⟩
  obtain ⟨b, a1, c, a2, a3⟩ := a d h
  rw [← a3]
  cases b <;> cases c <;> simp [-getElem?_pos, -List.getD_eq_getElem?_getD, -getElem?_neg, List.getElem?_cons_zero, List.getElem?_cons_succ, b_is_whole_637d, a1, a2]
theorem are_whole_any {d : D} {ds : List D} (hr : rowOf d = some ds) (hp : ∀ e ∈ ds, plainB e = true) (hl : ds.length ≤ 100000) : Oks sem_are_whole_5b5d [.fz d] fun v ys => v = .ok (.val (.bool (ds.all intB))) ∧ ys = [.fz d] := by
  have lb : (lineD : Nat) = 16777216 := rfl
  refine oks_def rfl ?_
  simp [-getElem?_pos, -List.getD_eq_getElem?_getD, -getElem?_neg, List.getElem?_cons_zero, List.getElem?_cons_succ, b_are_whole_5b5d, hr, anyPin]
  refine lcK_map (fun e => .bool (intB e)) (fun e he => ?_) (by omega) ?_
  · obtain ⟨_, _, w, rfl, rfl⟩ := is_whole_any (hp e he)
    simp [-getElem?_pos, -List.getD_eq_getElem?_getD, -getElem?_neg, List.getElem?_cons_zero, List.getElem?_cons_succ, w]
  · simp [-getElem?_pos, -List.getD_eq_getElem?_getD, -getElem?_neg, List.getElem?_cons_zero, List.getElem?_cons_succ, gAll_map, -List.map_map]
theorem intsD_all : ∀ {xs : List D}, xs.all intB = true → ∃ ns : List Int, xs = ns.map .int
  | [], _ => ⟨[], rfl⟩
  | d :: ds, h => by
    rw [List.all_cons, Bool.and_eq_true] at h
    obtain ⟨ns, rfl⟩ := intsD_all h.2
    cases d with
    | int n => exact ⟨n :: ns, rfl⟩
    | _ => exact absurd h.1 (by simp [intB])
end Lw
end

section
namespace Lw
open PySem DL
end Lw
end

section
namespace Lw
open PySem DL
section
variable {m : Int} {ts : List (Int × Int)}
end
end Lw
end

section
namespace Lw
open PySem DL
end Lw
end

section
namespace Lw
open PySem DL
section
variable {ts : List (Int × Int)}
end
end Lw
end

section
namespace Lw
open PySem DL
section
variable {m : Int} {ts : List (Int × Int)}
end
end Lw
end

section
namespace Lw
open PySem DL
def Ls (x : Sl) (L : List D) : Prop := x = .own false (.lst L) ∨ x = .frz false (.list L)
theorem Ls.fr {x : Sl} {L : List D} (h : Ls x L) : Fr x := by rcases h with rfl | rfl <;> first | exact .lst | exact .frz
section
variable {m : Int} {ts : List (Int × Int)}
end
end Lw
end

section
namespace Lw
open PySem DL
section
variable {m : Int} {ts : List (Int × Int)} {rows : List (List Int)}
end
end Lw
end

section
namespace Lw
open PySem DL
section
variable {m : Int} {ts : List (Int × Int)}
end
end Lw
end

section
namespace Lw
open PySem DL
section
variable {m : Int} {ts : List (Int × Int)}
end
end Lw
end

section
namespace Lw
open PySem DL
end Lw
end

section
namespace Lw
open PySem DL
section
variable {m : Int} {ts : List (Int × Int)}
end
end Lw
end

section
namespace Lw
open PySem DL
/-- the end of other numbers of ties -/
def renN (nm : List Nat) (e : Nat) : Nat := 2 * nm.getD (e / 2) 0 + e % 2
section
variable {m : Int} {ts us : List (Int × Int)} {rows : List (List Int)} {nm : List Nat}
/-- nm names the ties of us by those of ts -/
structure Nmd (ts us : List (Int × Int)) (nm : List Nat) : Prop where
  perm : nm.Perm (List.range ts.length)
  eq : us = nm.map fun k => ts.getD k (0, 0)
theorem Nmd.len (h : Nmd ts us nm) : nm.length = ts.length ∧ us.length = ts.length := by
  have := h.perm.length_eq
  rw [List.length_range] at this
  exact ⟨this, by rw [h.eq, List.length_map, this]⟩
theorem Nmd.lt (h : Nmd ts us nm) {k : Nat} (hk : k < ts.length) : ∃ j, nm[k]? = some j ∧ j < ts.length := by
  have hl := h.len.1
  refine ⟨nm[k]'(by omega), List.getElem?_eq_getElem _, ?_⟩
  exact List.mem_range.mp (h.perm.mem_iff.mp (List.getElem_mem _))
theorem Nmd.ren (h : Nmd ts us nm) {e : Nat} (he : e < 2 * ts.length) : renN nm e < 2 * ts.length ∧ renN nm e % 2 = e % 2 ∧ nm[e / 2]? = some (renN nm e / 2) ∧ plc ts (renN nm e) = plc us e := by
  obtain ⟨j, hj, hlt⟩ := h.lt (k := e / 2) (by omega)
  have er : renN nm e = 2 * j + e % 2 := by
    unfold renN
    rw [List.getD_eq_getElem?_getD, hj]
    rfl
  rw [er]
  refine ⟨by omega, by omega, by rw [hj]; congr 1; omega, ?_⟩
  have ht : ts[j]? = some (ts.getD j (0, 0)) := by
    rw [List.getD_eq_getElem?_getD, List.getElem?_eq_getElem hlt]
    rfl
  have hu : us[e / 2]? = some (ts.getD j (0, 0)) := by
    rw [h.eq, List.getElem?_map, hj]
    rfl
  unfold plc
  rw [show (2 * j + e % 2) / 2 = j by omega, ht, hu]
  simp only
  rw [show (2 * j + e % 2) % 2 = e % 2 by omega]
theorem Nmd.inj (h : Nmd ts us nm) {e e' : Nat} (he : e < 2 * ts.length) (he' : e' < 2 * ts.length) (q : renN nm e = renN nm e') : e = e' := by
  obtain ⟨_, h2, h3, _⟩ := h.ren he
  obtain ⟨_, g2, g3, _⟩ := h.ren he'
  have nd : nm.Nodup := h.perm.nodup_iff.mpr List.nodup_range
  rw [q] at h3 h2
  have hl := h.len.1
  have : e / 2 = e' / 2 := by
    have l1 : e / 2 < nm.length := by omega
    have l2 : e' / 2 < nm.length := by omega
    rw [List.getElem?_eq_getElem l1] at h3
    rw [List.getElem?_eq_getElem l2] at g3
    exact (List.getElem_inj nd).mp (Option.some.inj (h3.trans g3.symm))
  omega
end
end Lw
end

section
namespace Lw
open PySem DL
section
variable {m : Int} {ts us : List (Int × Int)} {rows : List (List Int)} {nm : List Nat}
def nmD (nm : List Nat) : List D := nm.map fun k : Nat => .int (k : Int)
end
end Lw
end

section
namespace Lw
open PySem DL
section
variable {m : Int} {ts : List (Int × Int)} {rows : List (List Int)}
end
end Lw
end

section
namespace Lw
open PySem DL
section
variable {m : Int} {ts : List (Int × Int)}
/-- a right tree paper -/
structure RtP (m : Int) (ts : List (Int × Int)) (T : List Nat) (Ps : List (Nat × Nat)) : Prop where
  web : (partsD m ts).length = 1
  ris : T.Pairwise (· < ·)
  plt : ∀ p ∈ Ps, p.1 < p.2
  len : (T.length : Int) = m - 1
  one : (partsD m (T.map fun k => ts.getD k (0, 0))).length = 1
  nd : (T ++ Ps.flatMap fun p => [p.1, p.2]).Nodup
  lt : ∀ k ∈ T ++ Ps.flatMap fun p => [p.1, p.2], k < ts.length
  com : ∀ p ∈ Ps, ∃ x : Int, (x = (ts.getD p.1 (0, 0)).1 ∨ x = (ts.getD p.1 (0, 0)).2) ∧ (x = (ts.getD p.2 (0, 0)).1 ∨ x = (ts.getD p.2 (0, 0)).2)
def pairD (p : Nat × Nat) : D := .tuple [.int (p.1 : Int), .int (p.2 : Int)]
def paperT (T : List Nat) (Ps : List (Nat × Nat)) : D := .tuple [.tuple (nmD T), .tuple (Ps.map pairD)]
def tU (ts : List (Int × Int)) (nm : List Nat) : List (Int × Int) := nm.map fun k => ts.getD k (0, 0)
end
end Lw
end

section
namespace Lw
open PySem DL
section
variable {m : Int} {ts : List (Int × Int)}
end
end Lw
end

section
namespace Lw
open PySem DL
end Lw
end

section
namespace Lw
open PySem DL
section
variable {m : Int} {ts : List (Int × Int)} {rows : List (List Int)}
end
end Lw
end

section
namespace Lw
open PySem DL
end Lw
end

section
namespace Lw
open PySem DL
set_option maxHeartbeats 1000000 in
theorem drawB_ok {n : Nat} {p : List D} {m : Int} (hp : Pen n p) (hn : n ≤ 1000000) (hm : 1 ≤ m) (mm : DL.SmD m) :
    Oks sem_Ldraw_de5b [.ow (.lst p), .fz (.int m)] fun v ys => ∃ r p', v = .ok (.val (.int r)) ∧ ys = [.ow (.lst p'), .fz (.int m)] ∧ 0 ≤ r ∧ r < m ∧ Pen (n + 1) p' := by
  obtain ⟨cs, a, g, rfl, ha, hn2, hg, hcs⟩ := hp.ex
  refine oks_def rfl ?_
  have m0 : 0 < m := by omega
  have pow : (10 : Int) ^ 18 = 1000000000000000000 := by decide
  have r0 : ∀ x : Int, 0 ≤ x % m := fun x => Int.emod_nonneg _ (by omega)
  have r1 : ∀ x : Int, x % m < m := fun x => Int.emod_lt_of_pos _ m0
  by_cases hg0 : 0 < g
  · simp [b_Ldraw_de5b, hg0, -getElem?_pos, -getElem?_neg, List.getElem?_cons_zero, List.getElem?_cons_succ, m0, mm, r0, r1]
    exact ⟨cs, a, g / m, rfl, ha, by omega, Int.ediv_nonneg hg (by omega), hcs⟩
  · have s1 : SmM 69621 a := smM_of (by omega) (by omega)
    have s2 : ∀ c : Int, SmM (c % 2147483647 + 69621 * a + 13) 48271 := fun c => smM_of (by omega) (by omega)
    have key : ∀ x : Int, 0 ≤ x % 2147483629 ∧ x % 2147483629 < 2147483629 := fun x => by omega
    have s3 : ∀ x : Int, SmM (x % 2147483629) (x % 2147483629) := fun c => smM_of (by omega) (by omega)
    have s4 : ∀ x : Int, SmM 40692 (x % 2147483629) := fun c => smM_of (by omega) (by omega)
    have s5 : ∀ x : Int, SmM (x % 2147483587) 16807 := fun c => smM_of (by omega) (by omega)
    have s6 : DL.SmD 32 := smD_of (by omega)
    have pen1 : ∀ g', 0 ≤ g' → Pen (n + 1) [.list (cs.map .int), .int (a + 1), .int g'] := fun g' h => ⟨cs, a + 1, g', rfl, by omega, by omega, h, hcs⟩
    by_cases hl : 0 < cs.length
    · obtain ⟨c, hc⟩ := ixP_map (cs := cs) (i := a % cs.length) (Int.emod_nonneg _ (by omega)) (Int.emod_lt_of_pos _ (by omega))
      by_cases h2 : a < cs.length ∧ 10 ^ 18 ≤ (if c < 0 then -c else c)
      · have h2' := h2.2
        rw [pow] at h2'
        simp [b_Ldraw_de5b, hg0, -getElem?_pos, -getElem?_neg, List.getElem?_cons_zero, List.getElem?_cons_succ, m0, mm, r0, r1, s1, s2, s3, s4, s5, s6, hl, hc, h2.1, h2', pow]
        exact pen1 _ (Int.ediv_nonneg (by omega) (by omega))
      · by_cases h3 : a < cs.length
        · have h2' : ¬ 1000000000000000000 ≤ (if c < 0 then -c else c) := fun h => h2 ⟨h3, by rw [pow]; exact h⟩
          simp [b_Ldraw_de5b, hg0, -getElem?_pos, -getElem?_neg, List.getElem?_cons_zero, List.getElem?_cons_succ, m0, mm, r0, r1, s1, s2, s3, s4, s5, s6, hl, hc, h3, h2', pow]
          exact pen1 _ hg
        · simp [b_Ldraw_de5b, hg0, -getElem?_pos, -getElem?_neg, List.getElem?_cons_zero, List.getElem?_cons_succ, m0, mm, r0, r1, s1, s2, s3, s4, s5, s6, hl, hc, h3]
          exact pen1 _ hg
    · have hl2 : cs.length = 0 := by omega
      have h3 : ¬ a < 0 := by omega
      have s2' : SmM (11 + 69621 * a + 13) 48271 := smM_of (by omega) (by omega)
      simp [b_Ldraw_de5b, hg0, -getElem?_pos, -getElem?_neg, List.getElem?_cons_zero, List.getElem?_cons_succ, m0, mm, r0, r1, s1, s2, s2', s3, s4, s5, s6, hl, hl2, h3]
      exact pen1 _ hg
end Lw
end

section
namespace Lw
open PySem DL
end Lw
end

section
namespace Lw
open PySem DL
def HgB (ts : List (Int × Int)) (K : Int) : Prop := ∀ p : Int, 1 ≤ p → p < K → ∃ t ∈ ts, (t.1 = p ∧ 0 ≤ t.2 ∧ t.2 < p) ∨ (t.2 = p ∧ 0 ≤ t.1 ∧ t.1 < p)
theorem HgB.ins {ts : List (Int × Int)} {K : Int} (h : HgB ts K) (i : Nat) (t : Int × Int) : HgB (ts.take i ++ t :: ts.drop i) K := fun p h1 h2 => by
  obtain ⟨u, hu, hc⟩ := h p h1 h2
  refine ⟨u, ?_, hc⟩
  have : u ∈ ts.take i ++ ts.drop i := by rw [List.take_append_drop]; exact hu
  rcases List.mem_append.mp this with h3 | h3
  · exact List.mem_append.mpr (.inl h3)
  · exact List.mem_append.mpr (.inr (List.mem_cons_of_mem _ h3))
theorem HgB.more {ts : List (Int × Int)} {K : Int} (h : HgB ts K) {t : Int × Int} (ht : t ∈ ts) (hc : (t.1 = K ∧ 0 ≤ t.2 ∧ t.2 < K) ∨ (t.2 = K ∧ 0 ≤ t.1 ∧ t.1 < K)) : HgB ts (K + 1) := fun p h1 h2 => by
  by_cases e : p < K
  · exact h p h1 e
  · have : p = K := by omega
    subst this
    exact ⟨t, ht, hc⟩
end Lw
end

section
namespace Lw
open PySem DL
structure FF (m : Int) (ts : List (Int × Int)) (j a : Nat) (row : List Nat) (fs : List (Option Int)) (k : Nat) : Prop where
  len : fs.length = m.toNat
  nd : row.Nodup
  lt : ∀ p ∈ row, p < m.toNat
  inn : ∀ p, p ∈ row → ∃ n, fs.getD p none = some n ∧ 0 ≤ n ∧ n ≤ row.length
  out : ∀ p, p ∉ row → fs.getD p none = none
  st : a ∈ row
  cl : ∀ i p, i < k → row[i]? = some p → ∀ o t, o ≠ j → ts[o]? = some t → (t.1 = (p : Int) → t.2.toNat ∈ row) ∧ (t.2 = (p : Int) → t.1.toNat ∈ row)
theorem FF.few {m : Int} {ts : List (Int × Int)} {j a k : Nat} {row : List Nat} {fs : List (Option Int)} (h : FF m ts j a row fs k) : row.length ≤ m.toNat := nodup_len m.toNat row h.nd fun x hx => h.lt x hx
end Lw
end

section
namespace Lw
open PySem DL
section
variable {m : Int} {ts : List (Int × Int)}
theorem FF.vals {j a k : Nat} {row : List Nat} {fs : List (Option Int)} (h : FF m ts j a row fs k) : ∀ o ∈ fs, ∀ n, o = some n → 0 ≤ n ∧ n ≤ m.toNat := fun o ho n e => by
  subst e
  obtain ⟨p, hp⟩ := List.mem_iff_getElem?.mp ho
  have hg : fs.getD p none = some n := by rw [List.getD_eq_getElem?_getD, hp]; rfl
  have hf := h.few
  by_cases hm : p ∈ row
  · obtain ⟨c, h1, h2, h3⟩ := h.inn p hm
    rw [hg] at h1
    cases h1
    exact ⟨h2, by omega⟩
  · rw [h.out p hm] at hg
    cases hg
end
end Lw
end

section
namespace Lw
open PySem DL
section
variable {m : Int} {ts : List (Int × Int)}
end
end Lw
end

section
namespace Lw
open PySem DL
structure Tx (k w : Nat) (d : D) : Prop where
  dep : d.depth ≤ k
  sho : PyData.showable d = true
  lea : PyData.leavesShort 60 d = true
  bul : PyData.bulk d ≤ w
theorem tx_int {i : Int} {k w : Nat} (h : i.natAbs < 10 ^ 40) : Tx k w (.int i) := by
  refine ⟨Nat.zero_le _, ?_, ?_, Nat.zero_le _⟩
  · unfold PyData.showable
    by_cases h0 : i = 0
    · subst h0; decide
    · have : i.natAbs.log2 < 200 := (Nat.log2_lt (by omega)).mpr (Nat.lt_of_lt_of_le h (by decide))
      exact decide_eq_true (by omega)
  · unfold PyData.leavesShort
    have e := int_text_length_le10 (k := 40) (by decide) h
    refine decide_eq_true ?_
    show (Str.ofString (toString i)).length ≤ 60
    rw [ofString_length]
    omega
theorem tx_all {w k : Nat} : ∀ {ds : List D}, (∀ d ∈ ds, Tx k w d) → PyData.depthAll ds ≤ k ∧ PyData.showableAll ds = true ∧ PyData.leavesShortAll 60 ds = true ∧ PyData.bulkAll ds ≤ (w + 1) * ds.length
  | [], _ => ⟨Nat.zero_le _, rfl, rfl, Nat.zero_le _⟩
  | d :: ds, h => by
    obtain ⟨h2, h3, h4, h5⟩ := tx_all (ds := ds) fun e he => h e (List.mem_cons_of_mem _ he)
    have a := h d (List.mem_cons_self ..)
    refine ⟨?_, ?_, ?_, ?_⟩
    · unfold PyData.depthAll; exact Nat.max_le.mpr ⟨a.dep, h2⟩
    · unfold PyData.showableAll; rw [a.sho, h3]; rfl
    · unfold PyData.leavesShortAll; rw [a.lea, h4]; rfl
    · unfold PyData.bulkAll
      have := a.bul
      rw [List.length_cons, Nat.mul_succ]
      omega
theorem tx_list {w k n : Nat} {ds : List D} (h : ∀ d ∈ ds, Tx k w d) (hn : ds.length ≤ n) : Tx (k + 1) ((w + 1) * n) (.list ds) := by
  obtain ⟨h2, h3, h4, h5⟩ := tx_all h
  have m : (w + 1) * ds.length ≤ (w + 1) * n := Nat.mul_le_mul_left _ hn
  exact ⟨by unfold PyData.depth; omega, by unfold PyData.showable; exact h3, by unfold PyData.leavesShort; exact h4, by unfold PyData.bulk; omega⟩
theorem tx_tuple {w k n : Nat} {ds : List D} (h : ∀ d ∈ ds, Tx k w d) (hn : ds.length ≤ n) : Tx (k + 1) ((w + 1) * n) (.tuple ds) := by
  obtain ⟨h2, h3, h4, h5⟩ := tx_all h
  have m : (w + 1) * ds.length ≤ (w + 1) * n := Nat.mul_le_mul_left _ hn
  exact ⟨by unfold PyData.depth; omega, by unfold PyData.showable; exact h3, by unfold PyData.leavesShort; exact h4, by unfold PyData.bulk; omega⟩
theorem Tx.le {k k' w w' : Nat} {d : D} (h : Tx k w d) (hk : k ≤ k') (hw : w ≤ w') : Tx k' w' d := ⟨Nat.le_trans h.dep hk, h.sho, h.lea, Nat.le_trans h.bul hw⟩
theorem Tx.len {k w : Nat} {d : D} (h : Tx k w d) (hw : w ≤ 200000) : (PyData.shown d).length ≤ lineD := by
  have lb : (lineD : Nat) = 16777216 := rfl
  have := PyData.shown_le_bulk 60 (by omega) d h.lea
  have := h.bul
  omega
theorem canLayAll_mem {ds : List D} : (∀ d ∈ ds, d.canLay0 = true) → PyData.canLayAll0 ds = true := by
  induction ds with
  | nil => intro _; rfl
  | cons d ds ih =>
    intro h
    unfold PyData.canLayAll0
    rw [h d List.mem_cons_self, ih fun e he => h e (List.mem_cons_of_mem _ he)]
    rfl
theorem layTs_mem {ds : List D} : (∀ d ∈ ds, layT d = true) → layTs ds = true := by
  induction ds with
  | nil => intro _; rfl
  | cons d ds ih =>
    intro h
    unfold layTs
    rw [h d List.mem_cons_self, ih fun e he => h e (List.mem_cons_of_mem _ he)]
    rfl
theorem dR_layT {k w : Nat} {d : D} (h : Tx k w d) (hk : k ≤ 40) (hw : w ≤ 200000) (hr : isRowT d = true) (hl : layT d = true) : DL.shR d = true := by
  have hd : d.depth ≤ 40 := Nat.le_trans h.dep hk
  unfold DL.shR
  rw [hr, hl, decide_eq_true hd, h.sho, decide_eq_true (h.len hw)]
  simp
/-- texts of rows of whole numbers -/
theorem strOk_of (s : String) : PyData.strOk (Str.ofString s) = true := by
  rw [Str.ofString_eq_toList]
  unfold PyData.strOk
  rw [Array.all_eq_true_iff_forall_mem]
  intro c hc
  have hc : c ∈ s.toList.map Char.toNat := by simpa using hc
  obtain ⟨x, _, rfl⟩ := List.mem_map.mp hc
  refine decide_eq_true ?_
  have h := x.valid
  show x.val.toNat < 0x110000
  rcases h with h | h
  · have : x.val.toNat < 55296 := h
    omega
  · have : x.val.toNat < 0x110000 := h.2
    exact this
theorem cut_mem {α : Type} {xs : List α} {lo hi : Option Int} {x : α} (h : x ∈ cutD xs lo hi) : x ∈ xs := List.mem_of_mem_drop (List.mem_of_mem_take h)
def pickL (L : List D) (i : Int) : D := L.getD i.toNat .none
theorem pickL_ix {L : List D} {i : Int} (h0 : 0 ≤ i) (h1 : i < L.length) : ixP L i = some (pickL L i) := by
  refine ixP_pos h0 ?_
  unfold pickL
  rw [List.getD_eq_getElem?_getD, List.getElem?_eq_getElem (by omega)]
  rfl
theorem pickL_all {P : D → Prop} {L : List D} {i : Int} (h0 : 0 ≤ i) (h1 : i < L.length) (h : ∀ d ∈ L, P d) : P (pickL L i) := by
  unfold pickL
  rw [List.getD_eq_getElem?_getD, List.getElem?_eq_getElem (by omega)]
  exact h _ (List.getElem_mem _)
end Lw
end

section
namespace Lw
open PySem DL
section
variable {m : Int} {ts : List (Int × Int)}
theorem tx_dict {k w : Nat} (hk : 1 ≤ k) : Tx k w (.dict []) := ⟨hk, rfl, rfl, Nat.zero_le _⟩
/-- rows of small numbers, a thing among them -/
def Ints (xs : List D) : Prop := ∀ x ∈ xs, ∃ n : Int, x = .int n ∧ n.natAbs < 10 ^ 40
theorem Ints.cut {A : List D} (h : Ints A) {lo hi : Option Int} : Ints (cutD A lo hi) := fun x hx => h x (cut_mem hx)
end
end Lw
end

section
namespace Lw
open PySem DL
section
variable {m : Int} {ts : List (Int × Int)} {zs : List Int}
end
end Lw
end

section
namespace Lw
open PySem DL
section
variable {m : Int} {ts : List (Int × Int)}
end
end Lw
end

section
namespace Lw
open PySem DL
section
variable {m : Int} {ts : List (Int × Int)}
end
end Lw
end

section
namespace Lw
open PySem DL
section
variable {m : Int} {ts : List (Int × Int)} {zs : List Int}
end
end Lw
end

section
namespace Lw
open PySem DL
section
variable {m : Int} {ts : List (Int × Int)} {zs : List Int}
end
end Lw
end

section
namespace Lw
open PySem DL
section
variable {m : Int} {ts : List (Int × Int)}
theorem ints_row {ns : List Int} (h : ∀ x ∈ ns, 0 ≤ x ∧ x < 1000000) : Ints (ns.map .int) := fun x hx => by
  obtain ⟨n, hn, rfl⟩ := List.mem_map.mp hx
  have := h n hn
  have e : (10 : Nat) ^ 40 = 10000000000000000000000000000000000000000 := by decide
  exact ⟨n, rfl, by omega⟩
end
end Lw
end

section
namespace Lw
open PySem DL
section
variable {m : Int} {ts : List (Int × Int)} {zs : List Int}
structure Both (d : D) : Prop where
  l0 : d.canLay0 = true
  lt : layT d = true
theorem tx_str {x : Str} {k w : Nat} (hx : PyData.strOk x = true) (hl : x.length ≤ w) : Tx k w (.str x) := by
  refine ⟨Nat.zero_le _, rfl, ?_, hl⟩
  unfold PyData.leavesShort
  rw [List.all_eq_true]
  intro c hc
  have := (Array.all_eq_true_iff_forall_mem.mp hx) c (Array.mem_toList_iff.mp hc)
  have : c < 0x110000 := by simpa using this
  have e : (16 : Nat) ^ 8 = 4294967296 := by decide
  exact decide_eq_true (by omega)
theorem both_ints {A : List D} (hA : Ints A) : Both (.tuple A) :=
  ⟨by unfold PyData.canLay0; exact canLayAll_mem fun x hx => by obtain ⟨n, rfl, h⟩ := hA x hx; rfl, by unfold layT; exact layTs_mem fun x hx => by obtain ⟨n, rfl, h⟩ := hA x hx; rfl⟩
end
end Lw
end

section
namespace Lw
open PySem DL
section
variable {m : Int} {ts : List (Int × Int)}
end
end Lw
end

section
namespace Lw
open PySem DL
section
variable {m : Int} {ts : List (Int × Int)}
def SmR (hs : List Int) : Prop := hs.length ≤ 60 ∧ ∀ x ∈ hs, 0 ≤ x ∧ x ≤ 100
theorem ints_sm {hs : List Int} (h : SmR hs) : Ints (hs.map .int) := ints_row fun x hx => by have := h.2 x hx; omega
/-- rows of heights -/
def Rws (xs : List D) : Prop := ∀ x ∈ xs, ∃ hs, x = tupZ hs ∧ SmR hs
theorem Rws.both {xs : List D} (h : Rws xs) : ∀ x ∈ xs, Both x := fun x hx => by
  obtain ⟨hs, rfl, h⟩ := h x hx
  exact both_ints (ints_sm h)
theorem Rws.tup {xs : List D} (h : Rws xs) : Both (.tuple xs) := ⟨by unfold PyData.canLay0; exact canLayAll_mem fun x hx => (h.both x hx).l0, by unfold layT; exact layTs_mem fun x hx => (h.both x hx).lt⟩
end
end Lw
end

section
namespace Lw
open PySem DL
section
variable {m : Int} {ts : List (Int × Int)}
structure TrN (m : Int) (ts : List (Int × Int)) (T : List Nat) : Prop where
  ris : T.Pairwise (· < ·)
  lt : ∀ k ∈ T, k < ts.length
  len : (T.length : Int) = m - 1
  one : (partsD m (tU ts T)).length = 1
structure PrN (ts : List (Int × Int)) (p : Nat × Nat) : Prop where
  lt : p.1 < p.2
  hi : p.2 < ts.length
  com : ∃ x : Int, (x = (ts.getD p.1 (0, 0)).1 ∨ x = (ts.getD p.1 (0, 0)).2) ∧ (x = (ts.getD p.2 (0, 0)).1 ∨ x = (ts.getD p.2 (0, 0)).2)
theorem nmD_inj : ∀ {T U : List Nat}, nmD T = nmD U → T = U
  | [], [], _ => rfl
  | [], _ :: _, h => by cases h
  | _ :: _, [], h => by cases h
  | a :: T, b :: U, h => by
    have h : PyData.int (a : Int) :: nmD T = PyData.int (b : Int) :: nmD U := h
    have h1 := PyData.int.inj (List.cons.inj h).1
    have h2 := nmD_inj (List.cons.inj h).2
    rw [h2, show a = b by omega]
theorem pairD_inj {p q : Nat × Nat} (h : pairD p = pairD q) : p = q := by
  have h : PyData.tuple [.int (p.1 : Int), .int (p.2 : Int)] = .tuple [.int (q.1 : Int), .int (q.2 : Int)] := h
  have h1 := PyData.int.inj (List.cons.inj (PyData.tuple.inj h)).1
  have h2 := PyData.int.inj (List.cons.inj (List.cons.inj (PyData.tuple.inj h)).2).1
  exact Prod.ext (by omega) (by omega)
theorem pairsD_inj : ∀ {P Q : List (Nat × Nat)}, P.map pairD = Q.map pairD → P = Q
  | [], [], _ => rfl
  | [], _ :: _, h => by cases h
  | _ :: _, [], h => by cases h
  | a :: P, b :: Q, h => by
    have h : pairD a :: P.map pairD = pairD b :: Q.map pairD := h
    rw [pairD_inj (List.cons.inj h).1, pairsD_inj (List.cons.inj h).2]
theorem paperT_inj {T U : List Nat} {P Q : List (Nat × Nat)} (h : paperT T P = paperT U Q) : T = U ∧ P = Q := by
  have h : PyData.tuple [.tuple (nmD T), .tuple (P.map pairD)] = .tuple [.tuple (nmD U), .tuple (Q.map pairD)] := h
  have h := PyData.tuple.inj h
  exact ⟨nmD_inj (PyData.tuple.inj (List.cons.inj h).1), pairsD_inj (PyData.tuple.inj (List.cons.inj (List.cons.inj h).2).1)⟩
end
end Lw
end

section
namespace Lw
open PySem DL
section
variable {m : Int} {ts : List (Int × Int)}
def usN (T : List Nat) (Ps : List (Nat × Nat)) : List Nat := T ++ Ps.flatMap fun p => [p.1, p.2]
theorem usN_snoc {T : List Nat} {Ps : List (Nat × Nat)} {p : Nat × Nat} : usN T (Ps ++ [p]) = usN T Ps ++ [p.1, p.2] := by
  unfold usN
  rw [List.flatMap_append, ← List.append_assoc]
  rfl
/-- what is told of a tree paper -/
def ShwT (m : Int) (ts : List (Int × Int)) (d v : D) : Prop := (∃ T Ps, d = paperT T Ps ∧ RtP m ts T Ps ∧ v = .int (Ps.length : Nat)) ∨ ((¬ ∃ T Ps, d = paperT T Ps ∧ RtP m ts T Ps) ∧ v = .none)
theorem ShwT.same {d v w : D} (h : ShwT m ts d v) (g : ShwT m ts d w) : v = w := by
  rcases h with ⟨T, Ps, rfl, h1, rfl⟩ | ⟨h1, rfl⟩ <;> rcases g with ⟨U, Qs, e, g1, rfl⟩ | ⟨g1, rfl⟩
  · rw [(paperT_inj e).2]
  · exact absurd ⟨T, Ps, rfl, h1⟩ g1
  · exact absurd ⟨U, Qs, e, g1⟩ h1
  · rfl
theorem RtP.tr {T : List Nat} {Ps : List (Nat × Nat)} (h : RtP m ts T Ps) : TrN m ts T := ⟨h.ris, fun k hk => h.lt k (List.mem_append_left _ hk), h.len, h.one⟩
theorem RtP.pr {T : List Nat} {Ps : List (Nat × Nat)} (h : RtP m ts T Ps) {p : Nat × Nat} (hp : p ∈ Ps) : PrN ts p :=
  ⟨h.plt p hp, h.lt _ (List.mem_append_right _ (List.mem_flatMap.mpr ⟨p, hp, by simp⟩)), h.com p hp⟩
end
end Lw
end

section
namespace Lw
open PySem DL
section
variable {m : Int} {ts : List (Int × Int)}
end
end Lw
end

section
namespace Lw
open PySem DL
structure FL (m : Int) (ts : List (Int × Int)) (j a : Nat) (row : List Nat) (fs : List (Option Int)) (k : Nat) : Prop extends FF m ts j a row fs k where
  za : fs.getD a none = some 0
  mo : ∀ (i i' p p' : Nat) (n n' : Int), i ≤ i' → row[i]? = some p → row[i']? = some p' → fs.getD p none = some n → fs.getD p' none = some n' → n ≤ n'
  cap : ∀ (p : Nat) (n : Int) (q : Nat) (n' : Int), row[k]? = some q → fs.getD q none = some n' → p ∈ row → fs.getD p none = some n → n ≤ n' + 1
  lv : ∀ (i p : Nat) (n : Int), i < k → row[i]? = some p → fs.getD p none = some n → ∀ (o : Nat) (t : Int × Int), o ≠ j → ts[o]? = some t → (t.1 = (p : Int) → ∀ z, fs.getD t.2.toNat none = some z → z ≤ n + 1) ∧ (t.2 = (p : Int) → ∀ z, fs.getD t.1.toNat none = some z → z ≤ n + 1)
theorem FL.few {m : Int} {ts : List (Int × Int)} {j a k : Nat} {row : List Nat} {fs : List (Option Int)} (h : FL m ts j a row fs k) : row.length ≤ m.toNat := h.toFF.few
theorem FL.next {m : Int} {ts : List (Int × Int)} {j a k p : Nat} {row : List Nat} {fs : List (Option Int)} (h : FL m ts j a row fs k) (hp : row[k]? = some p) (hF : FF m ts j a row fs (k + 1)) : FL m ts j a row fs (k + 1) := by
  refine { toFF := hF, za := h.za, mo := h.mo, cap := ?_, lv := ?_ }
  · intro x c q c' hq hc' hx hc
    obtain ⟨n, hn, _, _⟩ := h.inn p (List.mem_of_getElem? hp)
    have h1 := h.cap x c p n hp hn hx hc
    have h2 := h.mo k (k + 1) p q n c' (by omega) hp hq hn hc'
    omega
  · intro i x c hi hx hc o t ho ht
    by_cases e : i < k
    · exact h.lv i x c e hx hc o t ho ht
    · have : i = k := by omega
      subst this
      rw [hp] at hx
      cases hx
      have key : ∀ z (v : Nat), fs.getD v none = some z → z ≤ c + 1 := fun z v hz => by
        by_cases hv : v ∈ row
        · exact h.cap v z p c hp hc hv hz
        · rw [h.out v hv] at hz
          cases hz
      exact ⟨fun _ z hz => key z _ hz, fun _ z hz => key z _ hz⟩
end Lw
end

section
namespace Lw
open PySem DL
section
variable {m : Int} {ts : List (Int × Int)}
end
end Lw
end

section
namespace Lw
open PySem DL
section
variable {m : Int} {ts : List (Int × Int)} {rows : List (List Int)}
end
end Lw
end

section
namespace Lw
open PySem DL
section
variable {m : Int} {ts : List (Int × Int)} {rows : List (List Int)}
end
end Lw
end

section
namespace Lw
open PySem DL
section
variable {m : Int} {ts us vs : List (Int × Int)}
end
end Lw
end

section
namespace Lw
open PySem DL
section
variable {m : Int} {ts : List (Int × Int)}
/-- ties that share a place -/
def shrB (ts : List (Int × Int)) (u : Int × Int) (k : Nat) : Bool := decide ((ts.getD k (0, 0)).1 ∈ [u.1, u.2]) || decide ((ts.getD k (0, 0)).2 ∈ [u.1, u.2])
structure DtW (ts : List (Int × Int)) (T L : List Nat) (Qs : List (Nat × Nat)) : Prop where
  nd : (usN T Qs ++ L).Nodup
  lt : ∀ k ∈ L, k < ts.length
  pr : ∀ p ∈ Qs, PrN ts p
theorem shr_com {i j : Nat} (h : shrB ts (ts.getD i (0, 0)) j = true) : ∃ x : Int, (x = (ts.getD i (0, 0)).1 ∨ x = (ts.getD i (0, 0)).2) ∧ (x = (ts.getD j (0, 0)).1 ∨ x = (ts.getD j (0, 0)).2) := by
  unfold shrB at h
  rw [Bool.or_eq_true] at h
  rcases h with h | h
  · have := of_decide_eq_true h
    exact ⟨_, by simpa using this, .inl rfl⟩
  · have := of_decide_eq_true h
    exact ⟨_, by simpa using this, .inr rfl⟩
theorem DtW.pair {T L0 L1 : List Nat} {Qs : List (Nat × Nat)} {i j : Nat} (h : DtW ts T (L0 ++ [i]) Qs) (hj : (j :: L1).Perm L0) (hs : shrB ts (ts.getD i (0, 0)) j = true) : DtW ts T L1 (Qs ++ [(min i j, max i j)]) := by
  have hjm : j ∈ L0 := hj.mem_iff.mp List.mem_cons_self
  have hne : i ≠ j := fun e => by
    have nd := (List.nodup_append.mp h.nd).2.1
    exact (List.nodup_append.mp nd).2.2 j hjm i (by simp) e.symm
  have hil := h.lt i (by simp)
  have hjl := h.lt j (List.mem_append_left _ hjm)
  obtain ⟨x, x1, x2⟩ := shr_com hs
  refine ⟨?_, fun k hk => h.lt k (List.mem_append_left _ (hj.mem_iff.mp (List.mem_cons_of_mem _ hk))), fun p hp => ?_⟩
  · rw [usN_snoc, List.append_assoc]
    refine (List.Perm.nodup_iff ?_).mpr h.nd
    refine List.Perm.append_left _ ?_
    have p1 : [min i j, max i j].Perm [i, j] := by
      by_cases hl : i < j
      · rw [show min i j = i by omega, show max i j = j by omega]
      · rw [show min i j = j by omega, show max i j = i by omega]
        exact .swap ..
    refine (p1.append_right L1).trans ?_
    show (i :: (j :: L1)).Perm (L0 ++ [i])
    exact (hj.cons i).trans (List.perm_append_comm (l₁ := [i]))
  · rcases List.mem_append.mp hp with hp | hp
    · exact h.pr p hp
    · rw [List.mem_singleton.mp hp]
      by_cases hl : i < j
      · rw [show min i j = i by omega, show max i j = j by omega]
        exact ⟨hl, hjl, x, x1, x2⟩
      · rw [show min i j = j by omega, show max i j = i by omega]
        exact ⟨by show j < i; omega, hil, x, x2, x1⟩
theorem DtW.drop {T L0 : List Nat} {Qs : List (Nat × Nat)} {i : Nat} (h : DtW ts T (L0 ++ [i]) Qs) : DtW ts T L0 Qs :=
  ⟨by have := h.nd; rw [← List.append_assoc] at this; exact (List.nodup_append.mp this).1, fun k hk => h.lt k (List.mem_append_left _ hk), h.pr⟩
end
end Lw
end

section
namespace Lw
open PySem DL
section
variable {m : Int} {ts : List (Int × Int)}
end
end Lw
end

section
namespace Lw
open PySem DL
section
variable {m : Int} {ts : List (Int × Int)}
end
end Lw
end

section
namespace DL
open PySem
section
variable {X : Exn → Ro → Prop} {r : Ro}
@[simp, simp ↓] theorem E_mRowL {m : M RV} {Q : List D → Ro → Prop} : E X (mRowL m) r Q ↔ E X m r fun v r' => optP v.data fun d => optP (rowL d) fun xs => Q xs r' := by
  unfold mRowL
  simp only [E_bind, E_of, E_mFz]
@[simp] theorem rowL_l {xs : List D} : rowL (.list xs) = some xs := rfl
end
end DL
end

section
namespace DL
open PySem
def tabP (P : Nat) (q : Str) : Option Sl → Prop
  | some (.own _ (.tab P' q')) => P' = P ∧ q' = q
  | _ => False
@[simp, simp ↓] theorem tabP_own {P P' : Nat} {q q' : Str} {b : Bool} : tabP P q (some (.own b (.tab P' q'))) = (P' = P ∧ q' = q) := rfl
/-- the refusal of a told thing -/
def tellX (L : List String) (word : String → Str) (Q : RV → Ro → Prop) (t : Tok Q := .tok) : Exn → Ro → Prop := fun x r => x.row = none ∧ L.contains x.cls = true ∧ Q (.val (.tuple [.str (Str.ofString "refused"), .str (word x.cls)])) r
@[simp, simp ↓] theorem tellX_mk {L : List String} {word : String → Str} {Q : RV → Ro → Prop} {c : String} {r : Ro} : tellX L word Q .tok ⟨c, none⟩ r ↔ L.contains c = true ∧ Q (.val (.tuple [.str (Str.ofString "refused"), .str (word c)])) r := by simp [tellX]
section
variable {X : Exn → Ro → Prop} {r : Ro}
@[simp, simp ↓] theorem E_mTold {i P : Nat} {q : Str} {me : M RV} {L : List String} {word : String → Str} {Q : RV → Ro → Prop} :
    E X (mTold i P q me L word) r Q ↔ tabP P q r[i]? ∧ E (tellX L word Q) me r fun v r1 => optP v.data fun d => Q (.val (.tuple [.str (Str.ofString "told"), d])) r1 := by
  have fz : E (tellX L word Q) (mFz me) r (fun d r1 => Q (.val (.tuple [.str (Str.ofString "told"), d])) r1) ↔ E (tellX L word Q) me r fun v r1 => optP v.data fun d => Q (.val (.tuple [.str (Str.ofString "told"), d])) r1 := E_mFz
  rw [← fz]
  unfold mTold
  constructor
  · rintro ⟨o, r', e, h⟩
    simp only at e
    split at e
    · rename_i b P' q' hsl
      split at e
      · rename_i hq
        rw [hsl]
        refine ⟨hq, ?_⟩
        cases hm : mFz me r with
        | none => rw [hm] at e; cases e
        | some z =>
          obtain ⟨o1, r1⟩ := z
          rw [hm] at e
          refine ⟨o1, r1, hm, ?_⟩
          cases o1 with
          | ok d => cases e; exact h
          | exc x =>
            simp only at e
            split at e
            · rename_i hr
              split at e
              · rename_i hL
                cases e
                exact ⟨hr, hL, h⟩
              · cases e
            · cases e
      · cases e
    · cases e
  · rintro ⟨ht, o1, r1, hm, h⟩
    cases hs : r[i]? with
    | none => rw [hs] at ht; exact ht.elim
    | some x =>
      cases x with
      | own b c =>
        cases c with
        | tab P' q' =>
          rw [hs] at ht
          unfold E
          simp only [hs, if_pos (show P' = P ∧ q' = q from ht), hm]
          cases o1 with
          | ok d => exact ⟨_, _, rfl, h⟩
          | exc x =>
            obtain ⟨h1, h2, h3⟩ := h
            simp only [h1, h2, if_true]
            exact ⟨_, _, rfl, h3⟩
        | _ => rw [hs] at ht; exact ht.elim
      | _ => rw [hs] at ht; exact ht.elim
@[simp, simp ↓] theorem W_sTab {i P : Nat} {q : Str} {Q : SO → Ro → Prop} : W (sTab i P q) r Q ↔ i < r.length ∧ setP r i (.own false (.tab P q)) (Q .nx) := by
  unfold W sTab setP
  by_cases h : i < r.length
  · rw [if_pos h]
    constructor
    · rintro ⟨o, r', e, q⟩
      cases e
      exact ⟨h, q⟩
    · exact fun q => ⟨_, _, rfl, q.2⟩
  · rw [if_neg h]
    constructor
    · rintro ⟨o, r', e, q⟩
      cases e
    · exact fun q => absurd q.1 h
end
end DL
end

section
namespace DL
open PySem
end DL
end

section
namespace DL
open PySem
section
variable {r : Ro} {Q : SO → Ro → Prop}
end
end DL
end

section
namespace DL
open PySem PySem.Spec PySem.Calls PyProof.Rows L2
section
variable {K : PySem.W.Frag} {B B' H H' : Hp} {σ : L2.St} {r : Ro} {O : Addr → Prop}
section
variable {X : Cx} {W : WX}
end
end
end DL
end

section
namespace DL
open PySem PySem.Spec PySem.Calls PyProof.Rows L2
section
variable {X : Cx} {W : WX}
end
end DL
end

section
namespace DL
open PySem PySem.Spec PySem.Calls PyProof.Rows L2
section
variable {X : Cx} {W : WX}
end
end DL
end

section
namespace DL
open PySem PySem.Spec PySem.Calls PyProof.Rows L2
open PySem.W (EachIs AllAlike Sortable alike dataLt dataLe SortsAt dataKind)
section
variable {X : Cx} {W : WX} {pins : List (Addr × Obj)} {σ : L2.St} {H : Hp} {s : Shared}
end
section
variable {prog : Program} {w : World} {A : Around} {s : Shared}
end
section
variable {X : Cx} {W : WX}
end
end DL
end

section
namespace DL
open PySem
section
variable {X : Exn → Ro → Prop} {r : Ro}
end
end DL
end

section
namespace DL
open PySem PySem.Spec PyProof.Rows L2
section
variable {X : Cx} {W : WX}
end
end DL
end

section
namespace DL
open PySem
section
variable {r : Ro} {Q : SO → Ro → Prop} {X : Exn → Ro → Prop}
def fzKP (Q : RV → Ro → Prop) (r : Ro) (v : RV) (t : Tok Q := .tok) : Prop := match v with
  | .new (.dK kvs) => oneI (kvs.map fun kv => (kD kv.1, kv.2)) = true ∧ Q (.val (.dict (kvs.map fun kv => (kD kv.1, kv.2)))) r
  | _ => False
@[simp, simp ↓] theorem fzKP_dK {Q : RV → Ro → Prop} {kvs : List (Ky × D)} : fzKP Q r (.new (.dK kvs)) ↔ oneI (kvs.map fun kv => (kD kv.1, kv.2)) = true ∧ Q (.val (.dict (kvs.map fun kv => (kD kv.1, kv.2)))) r := Iff.rfl
@[simp, simp ↓] theorem E_mFzK {m : M RV} {Q : RV → Ro → Prop} : E X (mFzK m) r Q ↔ E X m r fun v r1 => fzKP Q r1 v := by
  refine Iff.trans (E_bind (m := m)) ?_
  constructor
  · refine fun h => h.mono fun v r1 ⟨o, r2, e, q⟩ => ?_
    cases v with
    | val d => cases e
    | new ct =>
      cases ct with
      | dK kvs =>
        simp only at e
        split at e
        · rename_i h1
          cases e
          exact ⟨h1, q⟩
        · cases e
      | _ => cases e
  · refine fun h => h.mono fun v r1 q => ?_
    cases v with
    | val d => exact q.elim
    | new ct =>
      cases ct with
      | dK kvs =>
        refine ⟨.ok _, r1, ?_, q.2⟩
        simp only
        rw [if_pos q.1]
      | _ => exact q.elim
@[simp, simp ↓] theorem E_mDik {l : List (Int × Int)} {Q : RV → Ro → Prop} : E X (mDik l) r Q ↔ Q (.val (.dict (l.map fun p => (.int p.1, .int p.2)))) r := E_ret
end
end DL
end

section
namespace DL
open PySem PySem.Spec PyProof.Rows L2
section
variable {K : PySem.W.Frag} {B B' H H' : Hp} {σ : L2.St} {r : Ro} {O : Addr → Prop}
/-- what is owned at F stands still -/
def ovr (B H : Hp) (F : List Addr) : Hp := fun a => if a ∈ F then H a else B a
theorem ovr_in {F : List Addr} {a : Addr} (h : a ∈ F) : ovr B H F a = H a := if_pos h
theorem ovr_out {F : List Addr} {a : Addr} (h : a ∉ F) : ovr B H F a = B a := if_neg h
theorem rows_dq {F : List Addr} (sB : Same B (ovr B H F)) : ∀ {as : List Addr} {rows : List (List D)}, RowsAt K B H as rows → (∀ a ∈ as, a ∈ F) → DqAll K (ovr B H F) (as.map V.ref) (rows.map .list)
  | _, _, .nil, _ => .nil
  | _, _, .cons h t, k => by
    obtain ⟨vs, h1, h2⟩ := h
    exact .cons (.lst (by rw [ovr_in (k _ List.mem_cons_self)]; exact h1) (dpa_same sB h2)) (rows_dq sB t fun a ha => k a (List.mem_cons_of_mem _ ha))
theorem con_hideL (c : Con K B H σ r O) {i : Nat} {ds : List D} {l : Addr} {F : List Addr} (h1 : σ[i]? = some (some (V.ref l))) (hF : ∀ a ∈ F, B a = none) (hd : Dq K (ovr B H F) (.ref l) (.list ds)) :
    Con K (ovr B H F) H σ (hideR r i ds) (fun _ => False) := by
  have sB : Same B (ovr B H F) := fun a o h => by
    by_cases e : a ∈ F
    · rw [hF a e] at h; cases h
    · rw [ovr_out e]; exact h
  refine ⟨⟨fun a o h => ?_, fun _ h => h.elim, fun _ h => h.elim, by unfold hideR; rw [List.length_set, List.length_map, c.len], fun j b2 d e => ?_, fun j b2 ct e => ?_, fun j j2 b2 ct b3 c3 l2 l3 F F' ne e => ?_⟩, fun j j2 k e => ?_⟩
  · by_cases e : a ∈ F
    · rw [ovr_in e] at h; exact h
    · rw [ovr_out e] at h; exact c.sub a o h
  · rcases hide_get e with ⟨rfl, z⟩ | ⟨_, z⟩ | ⟨_, b3, d3, z, z2⟩
    · cases z
      exact ⟨_, h1, hd⟩
    · cases z
    · cases z
      obtain ⟨v, g1, g2⟩ := c.frz j _ _ z2
      exact ⟨v, g1, dp_same sB g2⟩
  all_goals
    rcases hide_get e with ⟨_, z⟩ | ⟨_, z⟩ | ⟨_, b3, d3, z, z2⟩ <;> cases z
end
section
variable {X : Cx} {W : WX}
theorem de_thawA {e : Expr} {m : M RV} {i : Nat} (h : DE X W e m) : DE X W e (mThawA i m) := pe_weak h fun σ H Q ⟨B, r, O, c, o, r', e, p⟩ => by
  unfold mThawA at e
  split at e
  · rename_i b rows q
    split at e
    · rename_i v r2 q2
      split at e
      · rename_i hf
        cases e
        obtain ⟨l, F, h1, ⟨as, rfl, h2, nd, ra⟩, h4⟩ := c.own i b _ q
        obtain ⟨F, hFd⟩ : ∃ F, F = l :: as := ⟨_, rfl⟩
        rw [← hFd] at h4
        have hF : ∀ a ∈ F, B a = none := fun a ha => c.off a (h4 a ha)
        have sB0 : Same B (ovr B H F) := fun a o h => by
          by_cases e : a ∈ F
          · rw [hF a e] at h; cases h
          · rw [ovr_out e]; exact h
        have hd : Dq X.K (ovr B H F) (.ref l) (.list (rows.map .list)) := .lst (by rw [ovr_in (by rw [hFd]; simp)]; exact h2) (rows_dq sB0 ra fun a ha => by rw [hFd]; simp [ha])
        have hl : ∀ a ∈ F, ∃ ys, H a = some (.lst ys) := fun a ha => by
          rw [hFd] at ha
          rcases List.mem_cons.mp ha with rfl | ha
          · exact ⟨_, h2⟩
          · have key : ∀ {as : List Addr} {rows : List (List D)}, RowsAt X.K B H as rows → ∀ a ∈ as, ∃ ys, H a = some (.lst ys) := by
              intro as rows h
              induction h with
              | nil => intro a h; cases h
              | cons h t ih =>
                intro a ha
                rcases List.mem_cons.mp ha with rfl | ha
                · obtain ⟨vs, h, _⟩ := h; exact ⟨vs, h⟩
                · exact ih a ha
            exact key ra a ha
        refine ⟨_, _, _, con_hideL c h1 hF hd, _, _, q2, fun B' H' O' y s c' b' x => ?_⟩
        have bl : ∀ a ∈ F, B' a = H a := fun a ha => by
          obtain ⟨ys, h⟩ := hl a ha
          rw [h]
          exact s.sB a _ (by rw [ovr_in ha]; exact h)
        have bO : ∀ a, O a → a ∉ F → B' a = none := fun a ha n => s.nB a (c.liv a ha) (fun z => z) (by rw [ovr_out n]; exact c.off a ha)
        let B2 : Hp := fun a => if a ∈ F then none else B' a
        have b2 : ∀ a, a ∉ F → B2 a = B' a := fun a n => if_neg n
        have b2l : ∀ a ∈ F, B2 a = none := fun a h => if_pos h
        have sB : Same B B2 := fun a o h => by
          have n : a ∉ F := fun z => by rw [hF a z] at h; cases h
          rw [b2 a n]
          exact s.sB a o (by rw [ovr_out n]; exact h)
        have sH : Same B2 H' := fun a o h => by
          have n : a ∉ F := fun z => by rw [b2l a z] at h; cases h
          rw [b2 a n] at h
          exact c'.sub a o h
        have kp : ∀ a o, H a = some o → H' a = some o := fun a o h => s.keep a o h (fun z => z)
        have off : ∀ a, O a → B2 a = none := fun a ha => by
          by_cases n : a ∈ F
          · exact b2l a n
          · rw [b2 a n]; exact bO a ha n
        have cc : Con X.K B2 H' σ r O := c.mono sB sH (fun a ha => by
          cases q5 : H a with
          | none => exact absurd q5 (c.liv a ha)
          | some o => exact kp a o q5) off
        have st : Step B H O B2 H' O := ⟨sB, fun a o h _ => kp a o h, s.live, fun a h n hb => by
          have n2 : a ∉ F := fun z => n (h4 a z)
          rw [b2 a n2]
          exact s.nB a h (fun z => z) (by rw [ovr_out n2]; exact hb), fun a h => .inl h⟩
        have kt : ∀ a xs, TupAt B' a xs → TupAt B2 a xs := fun a ys h => by
          obtain ⟨o, t, h⟩ := h
          have n : a ∉ F := fun z => by
            obtain ⟨zs, hz⟩ := hl a z
            rw [bl a z, hz] at h
            cases h
          exact ⟨o, t, by rw [b2 a n]; exact h⟩
        refine p B2 H' O y st cc .refl ?_
        cases v with
        | val d => exact lfree_dq kt x hf
        | new ct =>
          cases ct with
          | lst es =>
            obtain ⟨l2, F2, rfl, ⟨rfl, ys, g1, g2⟩, g3⟩ := x
            refine ⟨l2, [l2], rfl, ⟨rfl, ys, g1, lfree_dqs kt g2 hf⟩, fun a ha => ?_⟩
            obtain ⟨k1, k2, k3⟩ := g3 a ha
            refine ⟨k1, ?_, fun z => c.liv a z k1⟩
            by_cases n : a ∈ F
            · exact b2l a n
            · rw [b2 a n]; exact k2
          | _ => exact nomatch hf
      · cases e
    · cases e
  · cases e
end
end DL
end

section
namespace DL
open PySem
def llS : Sl → Option (List (List D))
  | .own _ (.ll rows) => some rows
  | _ => none
@[simp] theorem llS_o {b : Bool} {rows : List (List D)} : llS (.own b (.ll rows)) = some rows := rfl
section
variable {X : Exn → Ro → Prop} {r : Ro}
@[simp, simp ↓] theorem E_mThawA {i : Nat} {m : M RV} {Q : RV → Ro → Prop} : E X (mThawA i m) r Q ↔ optP (r[i]?.bind llS) fun rows => E (fun _ _ => False) m (hideR r i (rows.map .list)) fun v _ => lfreeRV v = true ∧ Q v r := by
  constructor
  · rintro ⟨o, r2, e, q⟩
    unfold mThawA at e
    split at e
    · rename_i b ds q1
      split at e
      · rename_i v r3 q2
        split at e
        · rename_i hf
          cases e
          exact ⟨ds, by rw [q1]; rfl, .ok v, _, q2, hf, q⟩
        · cases e
      · cases e
    · cases e
  · rintro ⟨ds, h1, o, r3, e, h⟩
    obtain ⟨x, q1, q2⟩ := Option.bind_eq_some_iff.mp h1
    cases o with
    | exc x => exact h.elim
    | ok v =>
      refine ⟨.ok v, r, ?_, h.2⟩
      unfold mThawA
      have q3 : ∃ b, x = .own b (.ll ds) := by
        unfold llS at q2
        split at q2
        · cases q2; exact ⟨_, rfl⟩
        · cases q2
      obtain ⟨b, rfl⟩ := q3
      rw [q1]
      simp only [e]
      rw [if_pos h.1]
end
end DL
end

section
namespace Lw
open PySem DL
/-- data whose kind is known -/
def knB : D → Bool
  | .dict (p :: r) => oneI (p :: r)
  | _ => true
def rowB : D → Bool
  | .list _ => true
  | .tuple _ => true
  | _ => false
theorem anyTy_row {d : D} (h : knB d = true) : anyTy [.list, .tuple] d = some (rowB d) := by
  cases d with
  | dict kvs => cases kvs with
    | nil => rfl
    | cons p r =>
      have h : oneI (p :: r) = true := h
      have e1 : ∀ t : Ty, t ≠ .dict → isTy t (.dict (p :: r)) = some false := fun t ht => by
        cases t <;> first | exact absurd rfl ht | (show (if oneI (p :: r) then some false else none) = _; rw [h]; rfl)
      unfold anyTy
      rw [e1 _ (by decide)]
      simp only
      unfold anyTy
      rw [e1 _ (by decide)]
      rfl
  | _ => rfl
theorem rowB_of {d : D} : rowB d = (rowOf d).isSome := by cases d <;> rfl
theorem is_row_any {d : D} (h : knB d = true) : Oks sem_is_row_acca [.fz d] fun v ys => v = .ok (.val (.bool (rowB d))) ∧ ys = [.fz d] := by
  have a := anyTy_row h
  refine oks_def rfl ?_
  simp [-getElem?_pos, -List.getD_eq_getElem?_getD, -getElem?_neg, List.getElem?_cons_zero, List.getElem?_cons_succ, b_is_row_acca, a]
def tieW (m : Int) (d : D) : Bool := match rowOf d with
  | some [.int a, .int b] => decide (0 ≤ a) && decide (0 ≤ b) && decide (a < m) && decide (b < m)
  | _ => false
/-- its items are plain -/
def Itm1 (d : D) : Prop := knB d = true ∧ ∀ ds, rowOf d = some ds → (∀ e ∈ ds, plainB e = true) ∧ ds.length ≤ 1000
theorem gLen_row {d : D} {ds : List D} (h : rowOf d = some ds) : gLen [.fz d] = some (.val (.int (ds.length : Int))) := by
  cases d with
  | list xs => cases h; exact gLen_l
  | tuple xs => cases h; exact gLen_t
  | _ => cases h
theorem gMin_row {d : D} {a b : Int} (h : rowOf d = some [.int a, .int b]) : gMinL [.fz d] = some (.val (.int (min a b))) ∧ gMaxL [.fz d] = some (.val (.int (max a b))) := by
  have e : W.minD (.int a) [.int b] = .int (min a b) := by
    rw [show ([.int b] : List D) = [b].map .int from rfl, W.minD_ints]; rfl
  have e2 : W.maxD (.int a) [.int b] = .int (max a b) := by
    rw [show ([.int b] : List D) = [b].map .int from rfl, W.maxD_ints]; rfl
  have k : mmOk [PyData.int a, PyData.int b] = true := mmOk_ints [a, b]
  cases d with
  | list xs => cases h; exact ⟨by rw [gMinL_l, k, e]; rfl, by rw [gMaxL_l, k, e2]; rfl⟩
  | tuple xs => cases h; exact ⟨by rw [gMinL_t, k, e]; rfl, by rw [gMaxL_t, k, e2]; rfl⟩
  | _ => cases h
theorem is_tie_any {d : D} {m : Int} (h : Itm1 d) : Oks sem_is_tie_8dfc [.fz d, .fz (.int m)] fun v ys => v = .ok (.val (.bool (tieW m d))) ∧ ys = [.fz d, .fz (.int m)] := by
  have lb : (lineD : Nat) = 16777216 := rfl
  obtain ⟨_, _, e1, rfl, rfl⟩ := is_row_any h.1
  refine oks_def rfl ?_
  cases hr : rowOf d with
  | none =>
    have hb : rowB d = false := by rw [rowB_of, hr]; rfl
    have ht : tieW m d = false := by unfold tieW; rw [hr]
    rw [hb] at e1
    simp [-getElem?_pos, -List.getD_eq_getElem?_getD, -getElem?_neg, List.getElem?_cons_zero, List.getElem?_cons_succ, b_is_tie_8dfc, e1, ht]
  | some ds =>
    have hb : rowB d = true := by rw [rowB_of, hr]; rfl
    rw [hb] at e1
    obtain ⟨hp, hl⟩ := h.2 ds hr
    have gl := gLen_row hr
    by_cases h2 : ds.length = 2
    · obtain ⟨_, _, e2, rfl, rfl⟩ := are_whole_any hr hp (by omega)
      have h2' : (ds.length : Int) = 2 := by omega
      rw [h2'] at gl
      match ds, h2 with
      | [x, y], _ =>
        by_cases ha : [x, y].all intB = true
        · obtain ⟨ns, hns⟩ := intsD_all ha
          match ns, hns with
          | [a, b], hns =>
            cases hns
            obtain ⟨g1, g2⟩ := gMin_row hr
            have ht : tieW m d = (decide (0 ≤ a) && decide (0 ≤ b) && decide (a < m) && decide (b < m)) := by unfold tieW; rw [hr]
            have ha : ([PyData.int a, PyData.int b].all intB) = true := ha
            rw [ha] at e2
            rw [ht]
            simp [-getElem?_pos, -List.getD_eq_getElem?_getD, -getElem?_neg, List.getElem?_cons_zero, List.getElem?_cons_succ, b_is_tie_8dfc, e1, gl, e2, g1, g2]
            by_cases q1 : 0 ≤ a <;> by_cases q2 : 0 ≤ b <;> by_cases q3 : a < m <;> by_cases q4 : b < m <;>
              (try simp [q1, q2, q3, q4, Int.le_min, Int.max_lt]) <;> (try omega)
          | [], hns => cases hns
          | [_], hns => cases hns
          | _ :: _ :: _ :: _, hns => cases hns
        · have ha : [x, y].all intB = false := by simpa using ha
          rw [ha] at e2
          have ht : tieW m d = false := by
            unfold tieW
            rw [hr]
            split
            · rename_i q
              cases q
              simp [intB] at ha
            · rfl
          simp [-getElem?_pos, -List.getD_eq_getElem?_getD, -getElem?_neg, List.getElem?_cons_zero, List.getElem?_cons_succ, b_is_tie_8dfc, e1, gl, e2, ht]
    · have h2' : ¬ (ds.length : Int) = 2 := by omega
      have ht : tieW m d = false := by
        unfold tieW
        rw [hr]
        split
        · rename_i q
          cases q
          exact absurd rfl h2
        · rfl
      simp [-getElem?_pos, -List.getD_eq_getElem?_getD, -getElem?_neg, List.getElem?_cons_zero, List.getElem?_cons_succ, b_is_tie_8dfc, e1, gl, h2', ht]
/-- all of it is looked at -/
def Kn1 (t : D) : Prop := knB t = true ∧ ∀ ds, rowOf t = some ds → (∀ e ∈ ds, Itm1 e) ∧ ds.length ≤ 1000
/-- what web_of refuses -/
def NWeb (d t : D) : Prop := (intB d = false ∨ ∃ n, d = .int n ∧ (n < 1 ∨ 25 < n)) ∨ ∃ n, d = .int n ∧ (rowB t = false ∨ ∃ ds, rowOf t = some ds ∧ (24 < ds.length ∨ ∃ e ∈ ds, tieW n e = false))
set_option maxHeartbeats 4000000 in
theorem web_of_no {d t : D} (hd : plainB d = true) (ht : Kn1 t) (h : NWeb d t) : sem_web_of_ac01R [.fz d, .fz t] = some (.exc ⟨"NoWeb", none⟩, [.fz d, .fz t]) := by
  have lb : (lineD : Nat) = 16777216 := rfl
  have key : Oks sem_web_of_ac01R [.fz d, .fz t] fun v ys => v = .exc ⟨"NoWeb", none⟩ ∧ ys = [.fz d, .fz t] := by
    refine oks_def rfl ?_
    obtain ⟨_, _, e1, rfl, rfl⟩ := is_whole_any hd
    by_cases hw : intB d = true
    · obtain ⟨n, rfl⟩ : ∃ n, d = .int n := by cases d with
        | int n => exact ⟨n, rfl⟩
        | _ => cases hw
      rw [hw] at e1
      by_cases n1 : n < 1
      · simp [-getElem?_pos, -List.getD_eq_getElem?_getD, -getElem?_neg, List.getElem?_cons_zero, List.getElem?_cons_succ, b_web_of_ac01R, e1, n1]
      · by_cases n2 : 25 < n
        · simp [-getElem?_pos, -List.getD_eq_getElem?_getD, -getElem?_neg, List.getElem?_cons_zero, List.getElem?_cons_succ, b_web_of_ac01R, e1, n1, n2]
        · have h : rowB t = false ∨ ∃ ds, rowOf t = some ds ∧ (24 < ds.length ∨ ∃ e ∈ ds, tieW n e = false) := by
            rcases h with (h | ⟨n', h, h2⟩) | ⟨n', h, h2⟩
            · rw [hw] at h; cases h
            · cases h; omega
            · cases h; exact h2
          obtain ⟨_, _, e2, rfl, rfl⟩ := is_row_any ht.1
          cases hr : rowOf t with
          | none =>
            have hb : rowB t = false := by rw [rowB_of, hr]; rfl
            rw [hb] at e2
            simp [-getElem?_pos, -List.getD_eq_getElem?_getD, -getElem?_neg, List.getElem?_cons_zero, List.getElem?_cons_succ, b_web_of_ac01R, e1, n1, n2, e2]
          | some ds =>
            have hb : rowB t = true := by rw [rowB_of, hr]; rfl
            rw [hb] at e2 h
            have gl := gLen_row hr
            have h : 24 < ds.length ∨ ∃ e ∈ ds, tieW n e = false := by
              rcases h with h | ⟨ds', h, h2⟩
              · cases h
              · rw [hr] at h; cases h; exact h2
            by_cases hl : 24 < (ds.length : Int)
            · simp [-getElem?_pos, -List.getD_eq_getElem?_getD, -getElem?_neg, List.getElem?_cons_zero, List.getElem?_cons_succ, b_web_of_ac01R, e1, n1, n2, e2, gl, hl]
            · obtain ⟨e, he, hbad⟩ : ∃ e ∈ ds, tieW n e = false := by
                rcases h with h | h
                · omega
                · exact h
              obtain ⟨hit, _⟩ := ht.2 ds hr
              simp [-getElem?_pos, -List.getD_eq_getElem?_getD, -getElem?_neg, List.getElem?_cons_zero, List.getElem?_cons_succ, b_web_of_ac01R, e1, n1, n2, e2, gl, hl, hr]
              refine forS_inv (fun k r => (∀ (j : Nat) (e : D), j < k → ds[j]? = some e → tieW n e = true) ∧ ∃ x2, r = [.frz false (.int n), .frz false t, x2] ∧ Fr x2) ds 0 _ ?_ (fun k d r hk hI => ?_) (fun r hI => ?_)
              · exact ⟨fun j e hj => by omega, .non, rfl, .non⟩
              · rw [Nat.zero_add] at hI ⊢
                obtain ⟨hI, x2, rfl, h2⟩ := hI
                obtain ⟨_, _, e3, rfl, rfl⟩ := is_tie_any (m := n) (hit d (List.mem_of_getElem? hk))
                cases hb : tieW n d with
                | true =>
                  rw [hb] at e3
                  simp [-getElem?_pos, -List.getD_eq_getElem?_getD, -getElem?_neg, List.getElem?_cons_zero, List.getElem?_cons_succ, h2.pin, e3]
                  refine ⟨fun j e hj he => ?_, .frz⟩
                  by_cases hjk : j < k
                  · exact hI j e hjk he
                  · have : j = k := by omega
                    subst this
                    rw [hk] at he
                    cases he
                    exact hb
                | false =>
                  rw [hb] at e3
                  simp [-getElem?_pos, -List.getD_eq_getElem?_getD, -getElem?_neg, List.getElem?_cons_zero, List.getElem?_cons_succ, h2.pin, e3]
              · obtain ⟨hI, _⟩ := hI
                obtain ⟨j, hj⟩ := List.mem_iff_getElem?.mp he
                have := hI j e (by rw [Nat.zero_add]; exact (List.getElem?_eq_some_iff.mp hj).1) hj
                rw [hbad] at this
                cases this
    · have hw : intB d = false := by simpa using hw
      rw [hw] at e1
      simp [-getElem?_pos, -List.getD_eq_getElem?_getD, -getElem?_neg, List.getElem?_cons_zero, List.getElem?_cons_succ, b_web_of_ac01R, e1]
  obtain ⟨_, _, e, rfl, rfl⟩ := key
  exact e
/-- a tie handed in as a list or a tuple -/
def hIt (p : Int × Int) (b : Bool) : D := if b then .list [.int p.1, .int p.2] else .tuple [.int p.1, .int p.2]
theorem hIt_row (p : Int × Int) (b : Bool) : rowOf (hIt p b) = some [.int p.1, .int p.2] := by cases b <;> rfl
theorem hIt_itm (p : Int × Int) (b : Bool) : Itm1 (hIt p b) := by
  refine ⟨by cases b <;> rfl, fun ds h => ?_⟩
  rw [hIt_row] at h
  cases h
  exact ⟨fun e he => by
    rcases List.mem_cons.mp he with rfl | he
    · rfl
    · rw [List.mem_singleton.mp he]; rfl, by simp⟩
def prD1 (d : D) : D := match rowOf d with
  | some [a, b] => .tuple [a, b]
  | _ => .none
set_option maxHeartbeats 4000000 in
theorem web_of_yes {m : Int} {ts : List (Int × Int)} {t : D} {es : List D} (hm : 1 ≤ m ∧ m ≤ 25) (hl : ts.length ≤ 24) (ht : TiesOk m ts) (hr : rowOf t = some es) (hk : knB t = true) (hes : es.length = ts.length) (hei : ∀ (i : Nat) (p : Int × Int), ts[i]? = some p → ∃ b, es[i]? = some (hIt p b)) :
    Oks sem_web_of_ac01R [.fz (.int m), .fz t] fun v ys => v = .ok (.val (webD m ts)) ∧ ys = [.fz (.int m), .fz t] := by
  have lb : (lineD : Nat) = 16777216 := rfl
  have n1 : ¬ m < 1 := by omega
  have n2 : ¬ 25 < m := by omega
  obtain ⟨_, _, e1, rfl, rfl⟩ := is_whole_any (d := .int m) rfl
  have e1 : sem_is_whole_637d [.fz (.int m)] = some (.ok (.val (.bool true)), [.fz (.int m)]) := e1
  obtain ⟨_, _, e2, rfl, rfl⟩ := is_row_any hk
  have hb : rowB t = true := by rw [rowB_of, hr]; rfl
  rw [hb] at e2
  have gl := gLen_row hr
  have hl2 : ¬ 24 < (es.length : Int) := by omega
  have item : ∀ k d, es[k]? = some d → ∃ p b, ts[k]? = some p ∧ d = hIt p b := fun k d hkd => by
    obtain ⟨p, hp⟩ : ∃ p, ts[k]? = some p := ⟨_, List.getElem?_eq_getElem (by rw [← hes]; exact (List.getElem?_eq_some_iff.mp hkd).1)⟩
    obtain ⟨b, hb⟩ := hei k p hp
    rw [hkd] at hb
    exact ⟨p, b, hp, Option.some.inj hb⟩
  refine oks_def rfl ?_
  simp [-getElem?_pos, -List.getD_eq_getElem?_getD, -getElem?_neg, List.getElem?_cons_zero, List.getElem?_cons_succ, b_web_of_ac01R, e1, n1, n2, e2, gl, hl2, hr]
  refine forS_inv (fun _ r => ∃ x2, r = [.frz false (.int m), .frz false t, x2] ∧ Fr x2) es 0 _ ?_ (fun k d r hk hI => ?_) (fun r hI => ?_)
  · exact ⟨.non, rfl, .non⟩
  · obtain ⟨x2, rfl, h2⟩ := hI
    obtain ⟨p, b, hp, rfl⟩ := item k d hk
    obtain ⟨_, _, e3, rfl, rfl⟩ := is_tie_any (m := m) (hIt_itm p b)
    have hb : tieW m (hIt p b) = true := by
      unfold tieW
      rw [hIt_row]
      have := ht p (List.mem_of_getElem? hp)
      simp
      omega
    rw [hb] at e3
    simp [-getElem?_pos, -List.getD_eq_getElem?_getD, -getElem?_neg, List.getElem?_cons_zero, List.getElem?_cons_succ, h2.pin, e3]
    exact .frz
  · obtain ⟨x2, rfl, h2⟩ := hI
    simp [-getElem?_pos, -List.getD_eq_getElem?_getD, -getElem?_neg, List.getElem?_cons_zero, List.getElem?_cons_succ, h2.pin, hr]
    refine ⟨by simp [anyPin, h2.pin], ?_⟩
    refine lcK_map (f := prD1) (fun d hd => ?_) (by omega) ?_
    · obtain ⟨k, hk⟩ := List.mem_iff_getElem?.mp hd
      obtain ⟨p, b, hp, rfl⟩ := item k d hk
      have g0 : gIx [.fz (hIt p b), .fz (.int 0)] = some (.val (.int p.1)) := by cases b <;> rfl
      have g1 : gIx [.fz (hIt p b), .fz (.int 1)] = some (.val (.int p.2)) := by cases b <;> rfl
      have gt : gTup [.fz (.int p.1), .fz (.int p.2)] = some (.val (.tuple [.int p.1, .int p.2])) := rfl
      have pe : prD1 (hIt p b) = .tuple [.int p.1, .int p.2] := by cases b <;> rfl
      simp [-getElem?_pos, -List.getD_eq_getElem?_getD, -getElem?_neg, List.getElem?_cons_zero, List.getElem?_cons_succ, g0, g1, gt, pe]
    · have e : es.map prD1 = ts.map tieD := by
        refine List.ext_getElem? fun k => ?_
        rw [List.getElem?_map, List.getElem?_map]
        cases hk : es[k]? with
        | none =>
          have : ts[k]? = none := List.getElem?_eq_none (by rw [← hes]; exact List.getElem?_eq_none_iff.mp hk)
          rw [this]; rfl
        | some d =>
          obtain ⟨p, b, hp, rfl⟩ := item k d hk
          rw [hp]
          cases b <;> rfl
      rw [e]
      rfl
end Lw
end

section
namespace Lw
open PySem DL
def ShoB (d : D) : Bool := (DL.shR d || shS d) || (shL d || shG d)
theorem gRepr_sho {d : D} (h : ShoB d = true) : gReprT [.fz d] = some (.val (.str (PyData.shown d))) := by
  show (if ((DL.shR d || shS d) || (shL d || shG d)) = true then some (RV.val (.str (PyData.shown d))) else none) = _
  rw [if_pos (show ((DL.shR d || shS d) || (shL d || shG d)) = true from h)]
/-- an item that can be shown in a row -/
def ShI (d : D) : Prop := Tx 5 100 d ∧ shX d = true
theorem shXs_mem {ds : List D} : (∀ d ∈ ds, shX d = true) → shXs ds = true := by
  induction ds with
  | nil => intro _; rfl
  | cons d ds ih =>
    intro h
    unfold shXs
    rw [h d List.mem_cons_self, ih fun e he => h e (List.mem_cons_of_mem _ he)]
    rfl
theorem sho_row {t : D} {ds : List D} (h : rowOf t = some ds) (hi : ∀ e ∈ ds, ShI e) (hn : ds.length ≤ 60) : ShoB t = true := by
  have ht : ∀ e ∈ ds, Tx 5 100 e := fun e he => (hi e he).1
  have hl : shXs ds = true := shXs_mem fun e he => (hi e he).2
  have : shG t = true := by
    cases t with
    | list xs =>
      cases h
      have q := tx_list ht hn
      have l := q.len (by omega)
      have d5 := q.dep
      simp only [shG, Bool.and_eq_true, decide_eq_true_eq]
      exact ⟨⟨⟨⟨rfl, by simpa [shX] using hl⟩, q.sho⟩, by omega⟩, l⟩
    | tuple xs =>
      cases h
      have q := tx_tuple ht hn
      have l := q.len (by omega)
      have d5 := q.dep
      simp only [shG, Bool.and_eq_true, decide_eq_true_eq]
      exact ⟨⟨⟨⟨rfl, by simpa [shX] using hl⟩, q.sho⟩, by omega⟩, l⟩
    | _ => cases h
  unfold ShoB
  rw [this, Bool.or_true, Bool.or_true]
theorem shi_pair {x y : D} (hx : Tx 3 20 x) (hy : Tx 3 20 y) (h1 : shX x = true) (h2 : shX y = true) : ShI (.tuple [x, y]) ∧ ShI (.list [x, y]) := by
  have ha : ∀ e ∈ [x, y], Tx 3 20 e := fun e he => by
    rcases List.mem_cons.mp he with rfl | he
    · exact hx
    · rw [List.mem_singleton.mp he]; exact hy
  refine ⟨⟨(tx_tuple (n := 2) ha (by simp)).le (by omega) (by omega), ?_⟩, ⟨(tx_list (n := 2) ha (by simp)).le (by omega) (by omega), ?_⟩⟩
  · simp [shX, shXs, h1, h2]
  · simp [shX, shXs, h1, h2]
theorem shi_hIt {p : Int × Int} {b : Bool} {m : Int} (hm : m ≤ 25) (hp : 0 ≤ p.1 ∧ p.1 < m ∧ 0 ≤ p.2 ∧ p.2 < m) : ShI (hIt p b) := by
  have p40 : (10 : Nat) ^ 40 = 10000000000000000000000000000000000000000 := by decide
  have h := shi_pair (x := .int p.1) (y := .int p.2) (tx_int (by omega)) (tx_int (by omega)) rfl rfl
  cases b
  · exact h.1
  · exact h.2
section
variable {m : Int} {ts : List (Int × Int)}
/-- a web's ties as they are handed in -/
structure Hnd (m : Int) (ts : List (Int × Int)) (t : D) (es : List D) : Prop where
  row : rowOf t = some es
  kn : knB t = true
  len : es.length = ts.length
  itm : ∀ (i : Nat) (p : Int × Int), ts[i]? = some p → ∃ b, es[i]? = some (hIt p b)
theorem Hnd.back {t : D} {es : List D} (h : Hnd m ts t es) {k : Nat} {d : D} (hkd : es[k]? = some d) : ∃ p b, ts[k]? = some p ∧ d = hIt p b := by
  obtain ⟨p, hp⟩ : ∃ p, ts[k]? = some p := ⟨_, List.getElem?_eq_getElem (by rw [← h.len]; exact (List.getElem?_eq_some_iff.mp hkd).1)⟩
  obtain ⟨b, hb⟩ := h.itm k p hp
  rw [hkd] at hb
  exact ⟨p, b, hp, Option.some.inj hb⟩
theorem Hnd.shi {t : D} {es : List D} (h : Hnd m ts t es) (hm : m ≤ 25) (ht : TiesOk m ts) : ∀ e ∈ es, ShI e := fun e he => by
  obtain ⟨k, hk⟩ := List.mem_iff_getElem?.mp he
  obtain ⟨p, b, hp, rfl⟩ := h.back hk
  exact shi_hIt hm (by have := ht p (List.mem_of_getElem? hp); omega)
theorem Hnd.it1 {t : D} {es : List D} (h : Hnd m ts t es) : ∀ e ∈ es, Itm1 e := fun e he => by
  obtain ⟨k, hk⟩ := List.mem_iff_getElem?.mp he
  obtain ⟨p, b, hp, rfl⟩ := h.back hk
  exact hIt_itm p b
def HnI (m : Int) (ts : List (Int × Int)) (n j : Nat) (acc : List D) (r : Ro) : Prop :=
  ∃ p, r = [.own true (.lst p), .frz false (webD m ts), .non, .non] ∧ Pen (n + j) p ∧ acc.length = j ∧ ∀ (i : Nat) (q : Int × Int), i < j → ts[i]? = some q → ∃ b, acc[i]? = some (hIt q b)
set_option maxHeartbeats 4000000 in
theorem handed_ok {n : Nat} {p : List D} (hp : Pen n p) (hn : n ≤ 500000) (hl : ts.length ≤ 24) : Oks sem_Lhanded_ab27 [.ow (.lst p), .fz (webD m ts)] fun v ys => ∃ t es p', v = .ok (.val t) ∧ ys = [.ow (.lst p'), .fz (webD m ts)] ∧ Hnd m ts t es ∧ Pen (n + ts.length + 1) p' := by
  have lb : (lineD : Nat) = 16777216 := rfl
  have hweb : gIx [.fz (webD m ts), .fz (.int 1)] = some (.val (.tuple (ts.map tieD))) := by
    unfold webD
    rw [gIx_t, ixP_1]
    rfl
  refine oks_def rfl ?_
  simp [-getElem?_pos, -List.getD_eq_getElem?_getD, -getElem?_neg, List.getElem?_cons_zero, List.getElem?_cons_succ, b_Lhanded_ab27, hweb, anyPin]
  refine lcK_inv (HnI m ts n) (n := 0) ⟨p, rfl, hp, rfl, fun i q h => by omega⟩ (by simp; omega) (fun j d acc r hd h => ?_) (fun zs r h => ?_)
  · rw [Nat.zero_add] at h ⊢
    rw [List.getElem?_map] at hd
    obtain ⟨q, hq, rfl⟩ := Option.map_eq_some_iff.mp hd
    have hj : j < ts.length := (List.getElem?_eq_some_iff.mp hq).1
    obtain ⟨p2, rfl, hp2, hal, hai⟩ := h
    obtain ⟨_, _, e2, c, p3, rfl, rfl, c0, c1, hp3⟩ := draw_ok hp2 (by omega) (m := 2) (by omega)
    have gl : gList [.fz (tieD q)] = some (.new (.lst [.int q.1, .int q.2])) := rfl
    have g2 : ∀ a b : D, gLst [.fz a, .fz b] = some (.new (.lst [a, b])) := fun _ _ => rfl
    have hc : c = 0 ∨ c = 1 := by omega
    have hx : ∃ b, ixP [PyData.list [.int q.1, .int q.2], tieD q] c = some (hIt q b) := by
      rcases hc with rfl | rfl
      · exact ⟨true, rfl⟩
      · exact ⟨false, rfl⟩
    obtain ⟨b, hx⟩ := hx
    simp [-getElem?_pos, -List.getD_eq_getElem?_getD, -getElem?_neg, List.getElem?_cons_zero, List.getElem?_cons_succ, e2, gl, g2, hx]
    refine ⟨p3, rfl, hp3, by simp [hal], fun i q' hi hq' => ?_⟩
    by_cases hij : i < j
    · obtain ⟨b', hb'⟩ := hai i q' hij hq'
      exact ⟨b', by rw [List.getElem?_append_left (by omega)]; exact hb'⟩
    · have : i = j := by omega
      subst this
      rw [hq] at hq'
      cases hq'
      exact ⟨b, by rw [List.getElem?_append_right (by omega), hal, Nat.sub_self]; rfl⟩
  · rw [Nat.zero_add, List.length_map] at h
    obtain ⟨p2, rfl, hp2, hal, hai⟩ := h
    obtain ⟨_, _, e2, c, p3, rfl, rfl, c0, c1, hp3⟩ := draw_ok hp2 (by omega) (m := 2) (by omega)
    have g2 : ∀ a b : D, gLst [.fz a, .fz b] = some (.new (.lst [a, b])) := fun _ _ => rfl
    have hc : c = 0 ∨ c = 1 := by omega
    have fin : ∀ t, rowOf t = some zs → knB t = true → Hnd m ts t zs := fun t h1 h2 => ⟨h1, h2, hal, fun i q hq => hai i q (List.getElem?_eq_some_iff.mp hq).1 hq⟩
    rcases hc with rfl | rfl
    · have hx : ixP [PyData.list zs, .tuple zs] 0 = some (.list zs) := rfl
      simp [-getElem?_pos, -List.getD_eq_getElem?_getD, -getElem?_neg, List.getElem?_cons_zero, List.getElem?_cons_succ, e2, g2, hx]
      exact ⟨⟨_, fin _ rfl rfl⟩, hp3⟩
    · have hx : ixP [PyData.list zs, .tuple zs] 1 = some (.tuple zs) := rfl
      simp [-getElem?_pos, -List.getD_eq_getElem?_getD, -getElem?_neg, List.getElem?_cons_zero, List.getElem?_cons_succ, e2, g2, hx]
      exact ⟨⟨_, fin _ rfl rfl⟩, hp3⟩
end
end Lw
end

section
namespace Lw
open PySem DL
noncomputable def tl01 : S := (sSeq (sIf (mTst (mOp gEq [(oS 3), (oE (mC (.int 0)))])) (sRet (mOp gTup [(oE (mOp gIx [(oS 4), (oE (mCall sem_Ldraw_de5b [(oS 0), (oE (mC (.int 14)))]))])), (oE (mCall sem_Lhanded_ab27 [(oS 0), (oS 1)]))])) sNx)
    (sSeq (sIf (mOr (mTst (mOp gEq [(oS 3), (oE (mC (.int 1)))])) (mTst (mOp gEq [(oS 12), (oE (mOp gTup []))]))) (sRet (mOp gTup [(oE (mOp gIx [(oE (mOp gLst [(oE (mRd 11)), (oE (mOp gIx [(oS 4), (oE (mCall sem_Ldraw_de5b [(oS 0), (oE (mC (.int 14)))]))]))])), (oE (mCall sem_Ldraw_de5b [(oS 0), (oE (mC (.int 2)))]))])), (oE (mOp gIx [(oS 5), (oE (mCall sem_Ldraw_de5b [(oS 0), (oE (mC (.int 13)))]))]))])) sNx)
    (sSeq (sSet 8 (mCall sem_Ldraw_de5b [(oS 0), (oE (mOp gLen [(oS 12)]))]))
    (sSeq (sSet 9 (mOp gIx [(oS 6), (oE (mCall sem_Ldraw_de5b [(oS 0), (oE (mC (.int 12)))]))]))
    (sSeq (sIf (mTst (mOp gGt [(oS 3), (oE (mC (.int 2)))])) (sSeq (sSet 9 (mOp gList [(oE (mOp gIx [(oS 12), (oS 8)]))]))
    (sSeq (sSub 9 (mOp gIx [(oS 7), (oE (mCall sem_Ldraw_de5b [(oS 0), (oE (mC (.int 12)))]))]) (oE (mCall sem_Ldraw_de5b [(oS 0), (oE (mC (.int 2)))])))
    (sSet 9 (mOp gIx [(oE (mOp gLst [(oE (mRd 9)), (oE (mOp gTuple [(oS 9)]))])), (oE (mCall sem_Ldraw_de5b [(oS 0), (oE (mC (.int 2)))]))])))) sNx)
    (sSeq (sSet 10 (mOp gList [(oE (mCall sem_Lhanded_ab27 [(oS 0), (oS 1)]))]))
    (sSeq (sSub 10 (mRd 9) (oS 8))
    (sRet (mOp gTup [(oE (mRd 11)), (oE (mOp gIx [(oE (mOp gLst [(oE (mRd 10)), (oE (mOp gTuple [(oS 10)]))])), (oE (mCall sem_Ldraw_de5b [(oS 0), (oE (mC (.int 2)))]))]))])))))))))
theorem tl01_eq : b_Lspoiled_a8cc = (sSeq (sUnp (mRd 1) (setT [(setN 11), (setN 12)])) (sSeq (sSet 2 (mCall sem_Ldraw_de5b [(oS 0), (oE (mOp gPow [(oE (mC (.int 10))), (oE (mC (.int 30)))]))])) (sSeq (sSet 3 (mCall sem_Ldraw_de5b [(oS 0), (oE (mC (.int 5)))])) (sSeq (sSet 4 (mOp gLst [(oE (mC (.int 0))), (oE (mC (.int 26))), (oE (mOp gSub [(oE (mC (.int 0))), (oE (mC (.int 1)))])), (oE (mOp gAdd [(oE (mC (.int 26))), (oS 2)])), (oE (mOp gSub [(oE (mC (.int 0))), (oS 11)])), (oE (mOp gSub [(oE (mC (.int 0))), (oS 2)])), (oE (mC (.bool true))), (oE (mC (.bool false))), (oE (mC .none)), (oE (mOp gStrI [(oS 11)])), (oE (mOp gLst [(oE (mRd 11))])), (oE (mOp gTup [(oE (mRd 11))])), (oE mE0), (oE (mOp gPow [(oE (mC (.int 10))), (oE (mC (.int 59)))]))])) (sSeq (sSet 5 (mOp gLst [(oE (mC .none)), (oE (mC (.bool true))), (oE (mC (.int 7))), (oE (mC (.str (Str.ofString "")))), (oE (mC (.str (Str.ofString "00")))), (oE mE0), (oE (mFzK (mDisp1 (oE (mC (.int 0))) (mOp gTup [(oE (mC (.int 0))), (oE (mC (.int 0)))])))), (oE (mOp gAdd [(oE (mOp gList [(oS 12)])), (oE (mOp gMul [(oE (mOp gLst [(oE (mOp gTup [(oE (mC (.int 0))), (oE (mC (.int 0)))]))])), (oE (mOp gSub [(oE (mC (.int 25))), (oE (mOp gLen [(oS 12)]))]))]))])), (oE (mOp gLst [(oE (mC (.int 0))), (oE (mC (.int 0)))])), (oE (mOp gTup [(oE (mOp gTup [(oE (mC (.int 0))), (oE (mC (.int 0)))])), (oE (mC (.int 0)))]))])) (sSeq (sSet 5 (mOp gAdd [(oS 5), (oE (mOp gLst [(oE (mOp gAdd [(oE (mOp gList [(oS 12)])), (oE (mOp gMul [(oE (mOp gLst [(oE (mOp gTup [(oE (mOp gSub [(oS 11), (oE (mC (.int 1)))])), (oE (mC (.int 0)))]))])), (oE (mC (.int 25)))]))])), (oE (mOp gTup [(oE (mOp gLst []))])), (oE (mOp gTup [(oE (mC .none))]))]))])) (sSeq (sSet 6 (mOp gLst [(oE (mC .none)), (oE (mC (.int 3))), (oE (mOp gTup [(oE (mC (.int 0)))])), (oE (mOp gTup [(oE (mC (.int 0))), (oE (mC (.int 0))), (oE (mC (.int 0)))])), (oE (mOp gLst [])), (oE (mC (.str (Str.ofString "00")))), (oE mE0), (oE (mC (.bool true))), (oE (mOp gTup [(oE (mOp gTup [(oE (mC (.int 0))), (oE (mC (.int 0)))]))])), (oE (mDik [(0, 0), (1, 0)])), (oE (mOp gTup [(oE (mC (.int 0))), (oE (mOp gTup [(oE (mC (.int 0)))]))])), (oE (mOp gLst [(oE (mOp gLst [(oE (mC (.int 0))), (oE (mC (.int 0)))]))]))])) (sSeq (sSet 7 (mOp gLst [(oE (mRd 11)), (oE (mOp gSub [(oE (mC (.int 0))), (oE (mC (.int 1)))])), (oE (mOp gAdd [(oS 11), (oS 2)])), (oE (mOp gSub [(oE (mOp gSub [(oE (mC (.int 0))), (oE (mC (.int 1)))])), (oS 2)])), (oE (mC (.bool true))), (oE (mC (.bool false))), (oE (mC .none)), (oE (mC (.str (Str.ofString "0")))), (oE (mOp gLst [(oE (mC (.int 0)))])), (oE (mOp gTup [(oE (mC (.int 0)))])), (oE mE0), (oE (mOp gAdd [(oS 11), (oE (mC (.int 1)))]))])) tl01)))))))) := rfl

section
variable {m : Int} {ts : List (Int × Int)}
def BadNu (d : D) : Prop := plainB d = true ∧ (intB d = false ∨ ∃ n, d = .int n ∧ (n < 1 ∨ 25 < n))
def BadT (m : Int) (t : D) : Prop := rowB t = false ∨ ∃ ds, rowOf t = some ds ∧ (24 < ds.length ∨ ∃ e ∈ ds, tieW m e = false)
structure BadPl (m : Int) (x : D) : Prop where
  pl : plainB x = true
  tx : Tx 3 20 x
  sx : shX x = true
  bad : ∀ n, x = .int n → n < 0 ∨ m ≤ n
/-- what spoiled tells -/
def SpO (m : Int) (ts : List (Int × Int)) (N : Nat) (v : EO RV) (ys : List Rs) : Prop := ∃ d t p', v = .ok (.val (.tuple [d, t])) ∧ ys = [.ow (.lst p'), .fz (webD m ts)] ∧ plainB d = true ∧ Kn1 t ∧ NWeb d t ∧ ShoB t = true ∧ Pen N p'
theorem gEq_ties : gEq [.fz (.tuple (ts.map tieD)), .fz (.tuple [])] = some (.val (.bool (ts.map tieD).isEmpty)) := by
  have h1 : ∀ l : List (Int × Int), PyData.canLayAll0 (l.map tieD) = true ∧ PyData.depthAll (l.map tieD) ≤ 1 := fun l => by
    induction l with
    | nil => exact ⟨rfl, Nat.zero_le _⟩
    | cons x l ih =>
      rw [List.map_cons]
      unfold PyData.canLayAll0 PyData.depthAll
      have e1 : (tieD x).canLay0 = true := by simp [tieD, PyData.canLay0, PyData.canLayAll0]
      have e2 : (tieD x).depth ≤ 1 := by simp [tieD, PyData.depth, PyData.depthAll]
      exact ⟨by rw [e1, ih.1]; rfl, Nat.max_le.mpr ⟨e2, ih.2⟩⟩
  obtain ⟨a, b⟩ := h1 ts
  have o1 : okD (.tuple (ts.map tieD)) = true := by
    have d1 : (PyData.tuple (ts.map tieD)).depth ≤ 64 := by unfold PyData.depth; omega
    have c1 : (PyData.tuple (ts.map tieD)).canLay0 = true := by unfold PyData.canLay0; exact a
    unfold okD
    rw [c1, decide_eq_true d1]
    rfl
  have o2 : okD (.tuple []) = true := rfl
  show (if (okD (.tuple (ts.map tieD)) && okD (.tuple [])) = true then some (RV.val (.bool (PyData.eqv (.tuple (ts.map tieD)) (.tuple [])))) else none) = _
  rw [o1, o2]
  cases ts with
  | nil => rfl
  | cons x l => simp [PyData.eqv, PyData.eqvAll]
theorem tieW_bad {x : D} {a b : Int} {c : Int} (h : BadPl m x) (hc : c = 0 ∨ c = 1) : ∃ y z, ([PyData.int a, .int b].set c.toNat x) = [y, z] ∧ plainB y = true ∧ plainB z = true ∧ 
    (∀ t, rowOf t = some [y, z] → tieW m t = false) ∧ ((a.natAbs < 1000 ∧ b.natAbs < 1000) → Tx 3 20 y ∧ Tx 3 20 z ∧ shX y = true ∧ shX z = true) := by
  have p40 : (10 : Nat) ^ 40 = 10000000000000000000000000000000000000000 := by decide
  rcases hc with rfl | rfl
  · refine ⟨x, .int b, rfl, h.pl, rfl, fun t ht => ?_, fun hb => ⟨h.tx, tx_int (by omega), h.sx, rfl⟩⟩
    unfold tieW
    rw [ht]
    cases x with
    | int n =>
      have := h.bad n rfl
      show (decide (0 ≤ n) && decide (0 ≤ b) && decide (n < m) && decide (b < m)) = false
      rcases this with h | h
      · rw [decide_eq_false (p := 0 ≤ n) (by omega)]; rfl
      · rw [decide_eq_false (p := n < m) (by omega)]; simp
    | _ => rfl
  · refine ⟨.int a, x, rfl, rfl, h.pl, fun t ht => ?_, fun hb => ⟨tx_int (by omega), h.tx, rfl, h.sx⟩⟩
    unfold tieW
    rw [ht]
    cases x with
    | int n =>
      have := h.bad n rfl
      show (decide (0 ≤ a) && decide (0 ≤ n) && decide (a < m) && decide (n < m)) = false
      rcases this with h | h
      · rw [decide_eq_false (p := 0 ≤ n) (by omega)]; simp
      · rw [decide_eq_false (p := n < m) (by omega)]; simp
    | _ => rfl
set_option maxHeartbeats 16000000 in
theorem tl01_ok {n : Nat} {p p0 : List D} {far w : Int} {L4 L5 L6 L7 : List D} (hp : Pen n p) (hn : n ≤ 450000) (hm : 1 ≤ m ∧ m ≤ 25) (hl : ts.length ≤ 24) (ht : TiesOk m ts) (w0 : 0 ≤ w)
    (h4 : L4.length = 14 ∧ ∀ d ∈ L4, BadNu d) (h5 : L5.length = 13 ∧ ∀ t ∈ L5, Kn1 t ∧ ShoB t = true ∧ BadT m t) (h6 : L6.length = 12 ∧ ∀ e ∈ L6, Itm1 e ∧ tieW m e = false ∧ ShI e) (h7 : L7.length = 12 ∧ ∀ x ∈ L7, BadPl m x) :
    W tl01 [.own true (.lst p), .frz false (webD m ts), .frz false (.int far), .frz false (.int w), .own false (.lst L4), .own false (.lst L5), .own false (.lst L6), .own false (.lst L7), .non, .non, .non, .frz false (.int m), .frz false (.tuple (ts.map tieD))] (retP [.ow (.lst p0), .fz (webD m ts)] (SpO m ts (n + 40))) := by
  have lb : (lineD : Nat) = 16777216 := rfl
  have t2 : ∀ a b : D, gTup [.fz a, .fz b] = some (.val (.tuple [a, b])) := fun _ _ => rfl
  have t0 : gTup [] = some (.val (.tuple [])) := rfl
  have gl2 : ∀ a b : D, gLst [.fz a, .fz b] = some (.new (.lst [a, b])) := fun _ _ => rfl
  have ge := gEq_ties (ts := ts)
  have hTl : (ts.map tieD).length = ts.length := List.length_map ..
  have fin : ∀ (d t : D) (p' : List D), plainB d = true → Kn1 t → NWeb d t → ShoB t = true → Pen (n + 40) p' → SpO m ts (n + 40) (.ok (.val (.tuple [d, t]))) [.ow (.lst p'), .fz (webD m ts)] := fun d t p' a b c e f => ⟨d, t, p', rfl, rfl, a, b, c, e, f⟩
  have hnd : ∀ {t : D} {es : List D}, Hnd m ts t es → Kn1 t ∧ ShoB t = true := fun h => by
    have hle := h.len
    refine ⟨⟨h.kn, fun ds e => ?_⟩, sho_row h.row (h.shi hm.2 ht) (by omega)⟩
    rw [h.row] at e
    cases e
    exact ⟨h.it1, by omega⟩
  by_cases hw0 : w = 0
  · obtain ⟨_, _, e1, j, p1, rfl, rfl, j0, j1, hp1⟩ := draw_ok hp (by omega) (m := 14) (by omega)
    obtain ⟨_, _, e2, t, es, p2, rfl, rfl, hh, hp2⟩ := handed_ok (m := m) (ts := ts) hp1 (by omega) hl
    have hix : ixP L4 j = some (pickL L4 j) := pickL_ix j0 (by rw [h4.1]; exact j1)
    have hb : BadNu (pickL L4 j) := pickL_all j0 (by rw [h4.1]; exact j1) h4.2
    obtain ⟨k1, k2⟩ := hnd hh
    simp [-getElem?_pos, -List.getD_eq_getElem?_getD, -getElem?_neg, List.getElem?_cons_zero, List.getElem?_cons_succ, tl01, hw0, e1, hix, e2, t2]
    exact fin _ _ _ hb.1 k1 (.inl hb.2) k2 (pen_mono (by omega) hp2)
  · by_cases hw1 : w = 1 ∨ (ts.map tieD).isEmpty = true
    · obtain ⟨_, _, e1, j, p1, rfl, rfl, j0, j1, hp1⟩ := draw_ok hp (by omega) (m := 14) (by omega)
      obtain ⟨_, _, e2, c, p2, rfl, rfl, c0, c1, hp2⟩ := draw_ok hp1 (by omega) (m := 2) (by omega)
      obtain ⟨_, _, e3, i, p3, rfl, rfl, i0, i1, hp3⟩ := draw_ok hp2 (by omega) (m := 13) (by omega)
      have hix : ixP L4 j = some (pickL L4 j) := pickL_ix j0 (by rw [h4.1]; exact j1)
      have hb : BadNu (pickL L4 j) := pickL_all j0 (by rw [h4.1]; exact j1) h4.2
      have hix2 : ixP L5 i = some (pickL L5 i) := pickL_ix i0 (by rw [h5.1]; exact i1)
      obtain ⟨k1, k2, k3⟩ := pickL_all i0 (by rw [h5.1]; exact i1) h5.2
      obtain ⟨d, hd, hd1, hd2⟩ : ∃ d, ixP [PyData.int m, pickL L4 j] c = some d ∧ plainB d = true ∧ NWeb d (pickL L5 i) := by
        have hc : c = 0 ∨ c = 1 := by omega
        rcases hc with rfl | rfl
        · exact ⟨.int m, rfl, rfl, .inr ⟨m, rfl, k3⟩⟩
        · exact ⟨_, rfl, hb.1, .inl hb.2⟩
      have g := fin d (pickL L5 i) p3 hd1 k1 hd2 k2 (pen_mono (by omega) hp3)
      rcases hw1 with hw1 | hw1
      · simp [-getElem?_pos, -List.getD_eq_getElem?_getD, -getElem?_neg, List.getElem?_cons_zero, List.getElem?_cons_succ, tl01, hw0, hw1, e1, e2, e3, hix, hix2, gl2, hd, t2, t0, ge]
        exact g
      · rw [hw1] at ge
        by_cases hw1' : w = 1
        · simp [-getElem?_pos, -List.getD_eq_getElem?_getD, -getElem?_neg, List.getElem?_cons_zero, List.getElem?_cons_succ, tl01, hw0, hw1', e1, e2, e3, hix, hix2, gl2, hd, t2, t0, ge]
          exact g
        · simp [-getElem?_pos, -List.getD_eq_getElem?_getD, -getElem?_neg, List.getElem?_cons_zero, List.getElem?_cons_succ, tl01, hw0, hw1', e1, e2, e3, hix, hix2, gl2, hd, t2, t0, ge]
          exact g
    · have hw1' : ¬ w = 1 := fun h => hw1 (.inl h)
      have hw2 : (ts.map tieD).isEmpty = false := by
        cases h : (ts.map tieD).isEmpty with
        | false => rfl
        | true => exact absurd (.inr h) hw1
      rw [hw2] at ge
      have hpos : 0 < ts.length := by
        rw [← hTl]
        cases h : ts.map tieD with
        | nil => rw [h] at hw2; cases hw2
        | cons _ _ => simp
      have glT : gLen [.fz (.tuple (ts.map tieD))] = some (.val (.int (ts.length : Int))) := by rw [gLen_t, hTl]
      obtain ⟨_, _, e1, at', p1, rfl, rfl, a0, a1, hp1⟩ := draw_ok hp (by omega) (m := (ts.length : Int)) (by omega)
      obtain ⟨_, _, e2, j, p2, rfl, rfl, j0, j1, hp2⟩ := draw_ok hp1 (by omega) (m := 12) (by omega)
      have hix : ixP L6 j = some (pickL L6 j) := pickL_ix j0 (by rw [h6.1]; exact j1)
      have hb := pickL_all j0 (by rw [h6.1]; exact j1) h6.2
      -- the rest, whatever the tie
      have rest : ∀ (e : D) (P : List D) (N : Nat), Itm1 e → tieW m e = false → ShI e → Pen N P → N ≤ n + 10 → ∃ t es p3 p4 c, sem_Lhanded_ab27 [.ow (.lst P), .fz (webD m ts)] = some (.ok (.val t), [.ow (.lst p3), .fz (webD m ts)]) ∧ gList [.fz t] = some (.new (.lst es)) ∧ es.length = ts.length ∧
          sem_Ldraw_de5b [.ow (.lst p3), .fz (.int 2)] = some (.ok (.val (.int c)), [.ow (.lst p4), .fz (.int 2)]) ∧ ∃ z, ixP [PyData.list (es.set at'.toNat e), .tuple (es.set at'.toNat e)] c = some z ∧ SpO m ts (n + 40) (.ok (.val (.tuple [.int m, z]))) [.ow (.lst p4), .fz (webD m ts)] := fun e P N he1 he2 he3 hP hN => by
        obtain ⟨_, _, f1, t, es, p3, rfl, rfl, hh, hp3⟩ := handed_ok (m := m) (ts := ts) hP (by omega) hl
        obtain ⟨_, _, f2, c, p4, rfl, rfl, c0, c1, hp4⟩ := draw_ok hp3 (by omega) (m := 2) (by omega)
        have hle := hh.len
        have it : ∀ x ∈ es.set at'.toNat e, Itm1 x := fun x hx => by
          rcases List.mem_or_eq_of_mem_set hx with h | rfl
          · exact hh.it1 x h
          · exact he1
        have si : ∀ x ∈ es.set at'.toNat e, ShI x := fun x hx => by
          rcases List.mem_or_eq_of_mem_set hx with h | rfl
          · exact hh.shi hm.2 ht x h
          · exact he3
        have hin : e ∈ es.set at'.toNat e := List.mem_iff_getElem?.mpr ⟨at'.toNat, List.getElem?_set_self (by omega)⟩
        have key : ∀ z, rowOf z = some (es.set at'.toNat e) → knB z = true → SpO m ts (n + 40) (.ok (.val (.tuple [.int m, z]))) [.ow (.lst p4), .fz (webD m ts)] := fun z hz hk => by
          refine fin (.int m) z p4 rfl ⟨hk, fun ds hd => ?_⟩ (.inr ⟨m, rfl, .inr ⟨_, hz, .inr ⟨e, hin, he2⟩⟩⟩) (sho_row hz si (by rw [List.length_set]; omega)) (pen_mono (by omega) hp4)
          rw [hz] at hd
          cases hd
          exact ⟨it, by rw [List.length_set]; omega⟩
        refine ⟨t, es, p3, p4, c, f1, ?_, hle, f2, ?_⟩
        · have := hh.row
          cases t with
          | list xs => cases this; rfl
          | tuple xs => cases this; rfl
          | _ => cases this
        · have hc : c = 0 ∨ c = 1 := by omega
          rcases hc with rfl | rfl
          · exact ⟨_, rfl, key _ rfl rfl⟩
          · exact ⟨_, rfl, key _ rfl rfl⟩
      have hset : ∀ es : List D, es.length = ts.length → ixD es.length at' = some at'.toNat := fun es h => by
        unfold ixD
        rw [if_pos a0, if_pos (by omega)]
      by_cases hw3 : 2 < w
      · obtain ⟨q, hq⟩ : ∃ q, ts[at'.toNat]? = some q := ⟨_, List.getElem?_eq_getElem (by omega)⟩
        have ixq : ixP (ts.map tieD) at' = some (tieD q) := ixP_pos a0 (by rw [List.getElem?_map, hq]; rfl)
        have gLq : gList [.fz (tieD q)] = some (.new (.lst [.int q.1, .int q.2])) := rfl
        obtain ⟨_, _, e3, i, p3, rfl, rfl, i0, i1, hp3⟩ := draw_ok hp2 (by omega) (m := 12) (by omega)
        obtain ⟨_, _, e4, c, p4, rfl, rfl, c0, c1, hp4⟩ := draw_ok hp3 (by omega) (m := 2) (by omega)
        obtain ⟨_, _, e5, c', p5, rfl, rfl, c0', c1', hp5⟩ := draw_ok hp4 (by omega) (m := 2) (by omega)
        have hix7 : ixP L7 i = some (pickL L7 i) := pickL_ix i0 (by rw [h7.1]; exact i1)
        have hb7 := pickL_all i0 (by rw [h7.1]; exact i1) h7.2
        have hc : c = 0 ∨ c = 1 := by omega
        obtain ⟨y, z, s1, s2, s3, s4, s5⟩ := tieW_bad (a := q.1) (b := q.2) hb7 hc
        have hqm := ht q (List.mem_of_getElem? hq)
        obtain ⟨u1, u2, u3, u4⟩ := s5 (by omega)
        obtain ⟨v1, v2⟩ := shi_pair u1 u2 u3 u4
        have ixc : ixD 2 c = some c.toNat := by
          unfold ixD
          rw [if_pos c0, if_pos (by omega)]
        obtain ⟨e, he, he1, he2, he3⟩ : ∃ e, ixP [PyData.list [y, z], .tuple [y, z]] c' = some e ∧ Itm1 e ∧ tieW m e = false ∧ ShI e := by
          have hpl : ∀ x ∈ [y, z], plainB x = true := fun x hx => by
            rcases List.mem_cons.mp hx with rfl | hx
            · exact s2
            · rw [List.mem_singleton.mp hx]; exact s3
          have hc : c' = 0 ∨ c' = 1 := by omega
          rcases hc with rfl | rfl
          · exact ⟨_, rfl, ⟨rfl, fun ds h => by cases h; exact ⟨hpl, by simp⟩⟩, s4 _ rfl, v2⟩
          · exact ⟨_, rfl, ⟨rfl, fun ds h => by cases h; exact ⟨hpl, by simp⟩⟩, s4 _ rfl, v1⟩
        obtain ⟨t, es, q3, q4, cc, r1, r2, r3, r4, zz, r5, r6⟩ := rest e p5 _ he1 he2 he3 hp5 (by omega)
        have hs := hset es r3
        generalize pickL L7 i = X7 at *
        generalize pickL L6 j = X6 at *
        simp [-getElem?_pos, -List.getD_eq_getElem?_getD, -getElem?_neg, List.getElem?_cons_zero, List.getElem?_cons_succ, tl01, hw0, hw1', hw3, t0, ge, glT, e1, e2, e3, e4, e5, hix, hix7, ixq, gLq, ixc, s1, gl2, he, r1, r2, r4, r5, hs, t2]
        exact r6
      · obtain ⟨t, es, q3, q4, cc, r1, r2, r3, r4, zz, r5, r6⟩ := rest (pickL L6 j) p2 _ hb.1 hb.2.1 hb.2.2 hp2 (by omega)
        have hs := hset es r3
        generalize pickL L6 j = X6 at *
        simp [-getElem?_pos, -List.getD_eq_getElem?_getD, -getElem?_neg, List.getElem?_cons_zero, List.getElem?_cons_succ, tl01, hw0, hw1', hw3, t0, ge, glT, e1, e2, hix, gl2, r1, r2, r4, r5, hs, t2]
        exact r6
end
end Lw
end

section
namespace Lw
open PySem DL
section
variable {m : Int} {ts : List (Int × Int)}
theorem shi_dec {d : D} (h1 : d.depth ≤ 5) (h2 : PyData.showable d = true) (h3 : PyData.leavesShort 60 d = true) (h4 : PyData.bulk d ≤ 100) (h5 : shX d = true) : ShI d := ⟨⟨h1, h2, h3, h4⟩, h5⟩
theorem itm1_none {d : D} (h : knB d = true) (hr : rowOf d = none) : Itm1 d := ⟨h, fun ds e => by rw [hr] at e; cases e⟩
theorem itm1_of {d : D} {ds : List D} (h : knB d = true) (hr : rowOf d = some ds) (hp : ∀ e ∈ ds, plainB e = true) (hl : ds.length ≤ 1000) : Itm1 d := ⟨h, fun es e => by rw [hr] at e; cases e; exact ⟨hp, hl⟩⟩
theorem kn1_none {d : D} (h : knB d = true) (hr : rowOf d = none) : Kn1 d := ⟨h, fun ds e => by rw [hr] at e; cases e⟩
theorem kn1_of {d : D} {ds : List D} (h : knB d = true) (hr : rowOf d = some ds) (hp : ∀ e ∈ ds, Itm1 e) (hl : ds.length ≤ 1000) : Kn1 d := ⟨h, fun es e => by rw [hr] at e; cases e; exact ⟨hp, hl⟩⟩
theorem itm1_tie (a b : Int) : Itm1 (.tuple [.int a, .int b]) := hIt_itm (a, b) false
theorem tieW_n {m : Int} {d : D} (h : ∀ a b, rowOf d ≠ some [.int a, .int b]) : tieW m d = false := by
  unfold tieW
  split
  · rename_i a b q
    exact absurd q (h a b)
  · rfl
set_option maxHeartbeats 16000000 in
theorem spoiled01_ok {n : Nat} {p : List D} (hp : Pen n p) (hn : n ≤ 400000) (hm : 1 ≤ m ∧ m ≤ 25) (hl : ts.length ≤ 24) (ht : TiesOk m ts) : Oks sem_Lspoiled_a8cc [.ow (.lst p), .fz (webD m ts)] (SpO m ts (n + 42)) := by
  have lb : (lineD : Nat) = 16777216 := rfl
  have p40 : (10 : Nat) ^ 40 = 10000000000000000000000000000000000000000 := by decide
  obtain ⟨_, _, e1, far, p1, rfl, rfl, f0, f1, hp1⟩ := drawB_ok hp (by omega) (m := 1000000000000000000000000000000) (by omega) (smD_of (by omega))
  obtain ⟨_, _, e2, w, p2, rfl, rfl, w0, w1, hp2⟩ := draw_ok hp1 (by omega) (m := 5) (by omega)
  have t2 : ∀ a b : D, gTup [.fz a, .fz b] = some (.val (.tuple [a, b])) := fun _ _ => rfl
  have t3 : ∀ a b c : D, gTup [.fz a, .fz b, .fz c] = some (.val (.tuple [a, b, c])) := fun _ _ _ => rfl
  have t1 : ∀ a : D, gTup [.fz a] = some (.val (.tuple [a])) := fun _ => rfl
  have gl0 : gLst [] = some (.new (.lst [])) := rfl
  have gl1 : ∀ a : D, gLst [.fz a] = some (.new (.lst [a])) := fun _ => rfl
  have gl2 : ∀ a b : D, gLst [.fz a, .fz b] = some (.new (.lst [a, b])) := fun _ _ => rfl
  have gl3 : ∀ a b c : D, gLst [.fz a, .fz b, .fz c] = some (.new (.lst [a, b, c])) := fun _ _ _ => rfl
  have g10 : ∀ a b c d e f g h i j : D, gLst [.fz a, .fz b, .fz c, .fz d, .fz e, .fz f, .fz g, .fz h, .fz i, .fz j] = some (.new (.lst [a, b, c, d, e, f, g, h, i, j])) := fun _ _ _ _ _ _ _ _ _ _ => rfl
  have g12 : ∀ a b c d e f g h i j k l : D, gLst [.fz a, .fz b, .fz c, .fz d, .fz e, .fz f, .fz g, .fz h, .fz i, .fz j, .fz k, .fz l] = some (.new (.lst [a, b, c, d, e, f, g, h, i, j, k, l])) := fun _ _ _ _ _ _ _ _ _ _ _ _ => rfl
  have g14 : ∀ a b c d e f g h i j k l x y : D, gLst [.fz a, .fz b, .fz c, .fz d, .fz e, .fz f, .fz g, .fz h, .fz i, .fz j, .fz k, .fz l, .fz x, .fz y] = some (.new (.lst [a, b, c, d, e, f, g, h, i, j, k, l, x, y])) := fun _ _ _ _ _ _ _ _ _ _ _ _ _ _ => rfl
  obtain ⟨xs, hxs⟩ : ∃ x : Str, x = Str.ofString (toString m) := ⟨_, rfl⟩
  have gs : gStrI [.fz (.int m)] = some (.val (.str xs)) := by
    rw [hxs]
    refine gStrI_i ?_
    by_cases h0 : m.natAbs = 0
    · rw [h0]; decide
    · have : m.natAbs.log2 < 10 := (Nat.log2_lt h0).mpr (by omega)
      omega
  have hwebE : webD m ts = .tuple [.int m, .tuple (ts.map tieD)] := rfl
  have gLi : gList [.fz (.tuple (ts.map tieD))] = some (.new (.lst (ts.map tieD))) := rfl
  have hTl : (ts.map tieD).length = ts.length := List.length_map ..
  have glT : gLen [.fz (.tuple (ts.map tieD))] = some (.val (.int (ts.length : Int))) := by rw [gLen_t, hTl]
  have hfl : ∀ (k : Nat) (d : D), (List.replicate k [d]).flatten = List.replicate k d := fun k d => by
    induction k with
    | zero => rfl
    | succ k ih => rw [List.replicate_succ, List.flatten_cons, ih, List.replicate_succ]; rfl
  have m25 : gMul [.fz (.list [.tuple [.int 0, .int 0]]), .fz (.int (25 - (ts.length : Int)))] = some (.new (.lst (List.replicate (25 - ts.length) (.tuple [.int 0, .int 0])))) := by
    show (if -(2 ^ 63) ≤ (25 - (ts.length : Int)) ∧ (25 - (ts.length : Int)) < 2 ^ 63 ∧ 1 * (25 - (ts.length : Int)).toNat ≤ lineD then some (RV.new (.lst (List.replicate (25 - (ts.length : Int)).toNat [PyData.tuple [.int 0, .int 0]]).flatten)) else none) = _
    rw [if_pos (by omega), hfl, show (25 - (ts.length : Int)).toNat = 25 - ts.length by omega]
  have mm25 : gMul [.fz (.list [.tuple [.int (m - 1), .int 0]]), .fz (.int 25)] = some (.new (.lst (List.replicate 25 (.tuple [.int (m - 1), .int 0])))) := by
    show (if -(2 ^ 63) ≤ (25 : Int) ∧ (25 : Int) < 2 ^ 63 ∧ 1 * (25 : Int).toNat ≤ lineD then some (RV.new (.lst (List.replicate (25 : Int).toNat [PyData.tuple [.int (m - 1), .int 0]]).flatten)) else none) = _
    rw [if_pos (by decide), hfl]
    rfl
  obtain ⟨A1, hA1⟩ : ∃ A, A = List.replicate (25 - ts.length) (PyData.tuple [.int 0, .int 0]) := ⟨_, rfl⟩
  obtain ⟨A2, hA2⟩ : ∃ A, A = List.replicate 25 (PyData.tuple [.int (m - 1), .int 0]) := ⟨_, rfl⟩
  have l1 : A1.length = 25 - ts.length := by rw [hA1, List.length_replicate]
  have l2 : A2.length = 25 := by rw [hA2, List.length_replicate]
  rw [← hA1] at m25
  rw [← hA2] at mm25
  have a1 : gAdd [.fz (.list (ts.map tieD)), .fz (.list A1)] = some (.new (.lst (ts.map tieD ++ A1))) := by
    show (if (ts.map tieD).length + A1.length ≤ lineD then some (RV.new (.lst (ts.map tieD ++ A1))) else none) = _
    rw [if_pos (by omega)]
  have a2 : gAdd [.fz (.list (ts.map tieD)), .fz (.list A2)] = some (.new (.lst (ts.map tieD ++ A2))) := by
    show (if (ts.map tieD).length + A2.length ≤ lineD then some (RV.new (.lst (ts.map tieD ++ A2))) else none) = _
    rw [if_pos (by omega)]
  obtain ⟨B1, hB1⟩ : ∃ B, B = ts.map tieD ++ A1 := ⟨_, rfl⟩
  obtain ⟨B2, hB2⟩ : ∃ B, B = ts.map tieD ++ A2 := ⟨_, rfl⟩
  rw [← hB1] at a1
  rw [← hB2] at a2
  have hB1l : 24 < B1.length ∧ B1.length ≤ 60 := by rw [hB1, List.length_append]; omega
  have hB2l : 24 < B2.length ∧ B2.length ≤ 60 := by rw [hB2, List.length_append]; omega
  have hti : ∀ e ∈ ts.map tieD, Itm1 e ∧ ShI e := fun e he => by
    obtain ⟨q, hq, rfl⟩ := List.mem_map.mp he
    have := ht q hq
    exact ⟨itm1_tie q.1 q.2, shi_hIt (p := q) (b := false) hm.2 (by omega)⟩
  have hB1i : ∀ e ∈ B1, Itm1 e ∧ ShI e := fun e he => by
    rw [hB1] at he
    rcases List.mem_append.mp he with h | h
    · exact hti e h
    · rw [hA1] at h
      rw [List.eq_of_mem_replicate h]
      exact ⟨itm1_tie 0 0, shi_hIt (p := (0, 0)) (b := false) hm.2 (by simp only; omega)⟩
  have hB2i : ∀ e ∈ B2, Itm1 e ∧ ShI e := fun e he => by
    rw [hB2] at he
    rcases List.mem_append.mp he with h | h
    · exact hti e h
    · rw [hA2] at h
      rw [List.eq_of_mem_replicate h]
      exact ⟨itm1_tie (m - 1) 0, shi_hIt (p := (m - 1, 0)) (b := false) hm.2 (by simp only; omega)⟩
  clear hB1 hB2 hA1 hA2
  have s00 : ∀ (s : String), ShoB (.str (Str.ofString s)) = true ∨ 1000 < s.length := fun s => by
    by_cases h : s.length ≤ 1000
    · left
      have t : Tx 3 1000 (.str (Str.ofString s)) := tx_str (strOk_of _) (by rw [ofString_length]; exact h)
      have : shS (.str (Str.ofString s)) = true := by
        unfold shS
        exact decide_eq_true (t.len (by omega))
      unfold ShoB
      rw [this]
      simp
    · right; omega
  refine oks_def rfl ?_
  simp [-getElem?_pos, -List.getD_eq_getElem?_getD, -getElem?_neg, List.getElem?_cons_zero, List.getElem?_cons_succ, tl01_eq, hwebE, e1, e2, t1, t2, t3, gl0, gl1, gl2, gl3, g10, g12, g14, gs, gLi, glT, m25, mm25, a1, a2]
  refine ⟨rfl, by omega, ?_⟩
  have hx : (kD (.inl 0) : D) = .int 0 := rfl
  refine tl01_ok (n := n + 2) hp2 (by omega) hm hl ht w0 ⟨rfl, ?_⟩ ⟨rfl, ?_⟩ ⟨rfl, ?_⟩ ⟨rfl, ?_⟩
  · intro d hd
    simp only [List.mem_cons, List.not_mem_nil, or_false] at hd
    rcases hd with rfl | rfl | rfl | rfl | rfl | rfl | rfl | rfl | rfl | rfl | rfl | rfl | rfl | rfl
    · exact ⟨rfl, .inr ⟨_, rfl, by omega⟩⟩
    · exact ⟨rfl, .inr ⟨_, rfl, by omega⟩⟩
    · exact ⟨rfl, .inr ⟨_, rfl, by omega⟩⟩
    · exact ⟨rfl, .inr ⟨_, rfl, by omega⟩⟩
    · exact ⟨rfl, .inr ⟨_, rfl, by omega⟩⟩
    · exact ⟨rfl, .inr ⟨_, rfl, by omega⟩⟩
    · exact ⟨rfl, .inl rfl⟩
    · exact ⟨rfl, .inl rfl⟩
    · exact ⟨rfl, .inl rfl⟩
    · exact ⟨rfl, .inl rfl⟩
    · exact ⟨rfl, .inl rfl⟩
    · exact ⟨rfl, .inl rfl⟩
    · exact ⟨rfl, .inl rfl⟩
    · exact ⟨rfl, .inr ⟨_, rfl, by omega⟩⟩
  · intro d hd
    simp only [List.mem_cons, List.not_mem_nil, or_false] at hd
    have i00 : ShI (.tuple [.int 0, .int 0]) := shi_hIt (p := (0, 0)) (b := false) hm.2 (by simp only; omega)
    have i0 : ShI (.int 0) := shi_dec (by decide) (by decide) (by decide) (by decide) rfl
    rcases hd with rfl | rfl | rfl | rfl | rfl | rfl | rfl | rfl | rfl | rfl | rfl | rfl | rfl
    · exact ⟨kn1_none rfl rfl, rfl, .inl rfl⟩
    · exact ⟨kn1_none rfl rfl, rfl, .inl rfl⟩
    · exact ⟨kn1_none rfl rfl, rfl, .inl rfl⟩
    · exact ⟨kn1_none rfl rfl, (s00 "").resolve_right (by decide), .inl rfl⟩
    · exact ⟨kn1_none rfl rfl, (s00 "00").resolve_right (by decide), .inl rfl⟩
    · refine ⟨kn1_none rfl rfl, ?_, .inl rfl⟩
      unfold ShoB
      rw [dR_layT (k := 1) (w := 0) (tx_dict (by omega)) (by omega) (by omega) rfl rfl]; rfl
    · refine ⟨kn1_none rfl rfl, ?_, .inl rfl⟩
      have t : Tx 5 100 (.dict [(kD (.inl 0), .tuple [.int 0, .int 0])]) := ⟨by decide, by decide, by decide, by decide⟩
      unfold ShoB
      rw [dR_layT t (by omega) (by omega) rfl rfl]; rfl
    · exact ⟨kn1_of rfl rfl (fun e he => (hB1i e he).1) (by omega), sho_row rfl (fun e he => (hB1i e he).2) (by omega), .inr ⟨_, rfl, .inl hB1l.1⟩⟩
    · refine ⟨kn1_of rfl rfl (fun e he => ?_) (by simp), sho_row rfl (fun e he => ?_) (by simp), .inr ⟨_, rfl, .inr ⟨.int 0, by simp, tieW_n fun a b h => by cases h⟩⟩⟩
      · have : e = .int 0 := by simpa using he
        subst this; exact itm1_none rfl rfl
      · have : e = .int 0 := by simpa using he
        subst this; exact i0
    · refine ⟨kn1_of rfl rfl (fun e he => ?_) (by simp), sho_row rfl (fun e he => ?_) (by simp), .inr ⟨_, rfl, .inr ⟨.int 0, by simp, tieW_n fun a b h => by cases h⟩⟩⟩
      · have : e = .tuple [.int 0, .int 0] ∨ e = .int 0 := by simpa using he
        rcases this with rfl | rfl
        · exact itm1_tie 0 0
        · exact itm1_none rfl rfl
      · have : e = .tuple [.int 0, .int 0] ∨ e = .int 0 := by simpa using he
        rcases this with rfl | rfl
        · exact i00
        · exact i0
    · exact ⟨kn1_of rfl rfl (fun e he => (hB2i e he).1) (by omega), sho_row rfl (fun e he => (hB2i e he).2) (by omega), .inr ⟨_, rfl, .inl hB2l.1⟩⟩
    · refine ⟨kn1_of rfl rfl (fun e he => ?_) (by simp), sho_row rfl (fun e he => ?_) (by simp), .inr ⟨_, rfl, .inr ⟨.list [], by simp, tieW_n fun a b h => by cases h⟩⟩⟩
      · have : e = .list [] := by simpa using he
        subst this; exact itm1_of rfl rfl (fun _ h => nomatch h) (by simp)
      · have : e = .list [] := by simpa using he
        subst this; exact shi_dec (by decide) (by decide) (by decide) (by decide) rfl
    · refine ⟨kn1_of rfl rfl (fun e he => ?_) (by simp), sho_row rfl (fun e he => ?_) (by simp), .inr ⟨_, rfl, .inr ⟨.none, by simp, tieW_n fun a b h => by cases h⟩⟩⟩
      · have : e = .none := by simpa using he
        subst this; exact itm1_none rfl rfl
      · have : e = .none := by simpa using he
        subst this; exact shi_dec (by decide) (by decide) (by decide) (by decide) rfl
  · intro d hd
    simp only [List.mem_cons, List.not_mem_nil, or_false] at hd
    have st : ∀ s : String, s.length ≤ 20 → ShI (.str (Str.ofString s)) := fun s h => ⟨(tx_str (k := 3) (w := 20) (strOk_of _) (by rw [ofString_length]; exact h)).le (by omega) (by omega), rfl⟩
    have pl0 : ∀ k : Nat, ∀ e ∈ List.replicate k (PyData.int 0), plainB e = true := fun k e he => by rw [List.eq_of_mem_replicate he]; rfl
    rcases hd with rfl | rfl | rfl | rfl | rfl | rfl | rfl | rfl | rfl | rfl | rfl | rfl
    · exact ⟨itm1_none rfl rfl, tieW_n fun a b h => (by cases h), shi_dec (by decide) (by decide) (by decide) (by decide) rfl⟩
    · exact ⟨itm1_none rfl rfl, tieW_n fun a b h => (by cases h), shi_dec (by decide) (by decide) (by decide) (by decide) rfl⟩
    · exact ⟨itm1_of rfl rfl (pl0 1) (by simp), tieW_n fun a b h => (by cases h), shi_dec (by decide) (by decide) (by decide) (by decide) rfl⟩
    · exact ⟨itm1_of rfl rfl (pl0 3) (by simp), tieW_n fun a b h => (by cases h), shi_dec (by decide) (by decide) (by decide) (by decide) rfl⟩
    · exact ⟨itm1_of rfl rfl (pl0 0) (by simp), tieW_n fun a b h => (by cases h), shi_dec (by decide) (by decide) (by decide) (by decide) rfl⟩
    · exact ⟨itm1_none rfl rfl, tieW_n fun a b h => (by cases h), st "00" (by decide)⟩
    · exact ⟨itm1_none rfl rfl, tieW_n fun a b h => (by cases h), shi_dec (by decide) (by decide) (by decide) (by decide) rfl⟩
    · exact ⟨itm1_none rfl rfl, tieW_n fun a b h => (by cases h), shi_dec (by decide) (by decide) (by decide) (by decide) rfl⟩
    · exact ⟨itm1_of rfl rfl (fun e he => by rw [List.mem_singleton.mp he]; rfl) (by simp), tieW_n fun a b h => (by cases h), shi_dec (by decide) (by decide) (by decide) (by decide) rfl⟩
    · exact ⟨itm1_none rfl rfl, tieW_n fun a b h => (by cases h), shi_dec (by decide) (by decide) (by decide) (by decide) rfl⟩
    · exact ⟨itm1_of rfl rfl (fun e he => by
        have : e = .int 0 ∨ e = .tuple [.int 0] := by simpa using he
        rcases this with rfl | rfl <;> rfl) (by simp), tieW_n fun a b h => (by cases h), shi_dec (by decide) (by decide) (by decide) (by decide) rfl⟩
    · exact ⟨itm1_of rfl rfl (fun e he => by rw [List.mem_singleton.mp he]; rfl) (by simp), tieW_n fun a b h => (by cases h), shi_dec (by decide) (by decide) (by decide) (by decide) rfl⟩
  · intro d hd
    simp only [List.mem_cons, List.not_mem_nil, or_false] at hd
    have ti : ∀ i : Int, i.natAbs < 10 ^ 40 → Tx 3 20 (.int i) := fun i h => tx_int h
    rcases hd with rfl | rfl | rfl | rfl | rfl | rfl | rfl | rfl | rfl | rfl | rfl | rfl
    · exact ⟨rfl, ti _ (by omega), rfl, fun n h => by cases h; omega⟩
    · exact ⟨rfl, ti _ (by omega), rfl, fun n h => by cases h; omega⟩
    · exact ⟨rfl, ti _ (by omega), rfl, fun n h => by cases h; omega⟩
    · exact ⟨rfl, ti _ (by omega), rfl, fun n h => by cases h; omega⟩
    · exact ⟨rfl, ⟨by decide, by decide, by decide, by decide⟩, rfl, fun n h => by cases h⟩
    · exact ⟨rfl, ⟨by decide, by decide, by decide, by decide⟩, rfl, fun n h => by cases h⟩
    · exact ⟨rfl, ⟨by decide, by decide, by decide, by decide⟩, rfl, fun n h => by cases h⟩
    · exact ⟨rfl, tx_str (strOk_of _) (by rw [ofString_length]; decide), rfl, fun n h => by cases h⟩
    · exact ⟨rfl, ⟨by decide, by decide, by decide, by decide⟩, rfl, fun n h => by cases h⟩
    · exact ⟨rfl, ⟨by decide, by decide, by decide, by decide⟩, rfl, fun n h => by cases h⟩
    · exact ⟨rfl, ⟨by decide, by decide, by decide, by decide⟩, rfl, fun n h => by cases h⟩
    · exact ⟨rfl, ti _ (by omega), rfl, fun n h => by cases h; omega⟩
end
end Lw
end

section
namespace Lw
open PySem DL
section
variable {m : Int} {ts : List (Int × Int)}
theorem ref_ne (w : String) : gNe [.fz (.tuple [.str (Str.ofString "refused"), .str (Str.ofString w)]), .fz (.tuple [.str (Str.ofString "refused"), .str (Str.ofString w)])] = some (.val (.bool false)) := by
  have e : ∀ d : D, PyData.eqv d d = true → okD d = true → gNe [.fz d, .fz d] = some (.val (.bool false)) := fun d h1 h2 => by
    show (if (okD d && okD d) = true then some (RV.val (.bool (!PyData.eqv d d))) else none) = _
    rw [h2, h1]
    rfl
  have hs : PyData.strOk (Str.ofString w) = true := strOk_of w
  have hl : (PyData.tuple [.str (Str.ofString "refused"), .str (Str.ofString w)]).canLay0 = true := by
    simp [PyData.canLay0, PyData.canLayAll0, strOk_of]
  refine e _ (PySem.SeqAt.eqv_refl _ hl) ?_
  unfold okD
  rw [hl]
  simp [PyData.depth, PyData.depthAll]
def Lp01 (ns : List Int) (m : Int) (ts : List (Int × Int)) (t : D) (P : Nat) (Q : Str) (N : Nat) (k : Nat) (r : Ro) : Prop := ∃ x4 x6 x9 x10 p, r = [.frz false (.dict ((.none, .none) :: ns.map fun n => (.int n, .none))), .own false (.lst p), .frz false (webD m ts), .frz false t, x4, .frz false (webD m ts), x6, .non, .non, x9, x10, .own false (.tab P Q)] ∧ Fr x4 ∧ Fr x6 ∧ Fr x9 ∧ Fr x10 ∧ Pen (N + 42 * k) p
def Fa01 (ns : List Int) (m : Int) (ts : List (Int × Int)) (t : D) (P : Nat) (Q : Str) (x4 x6 x9 x10 : Sl) (p : List D) (n : Nat) (k : Nat) (r : Ro) : Prop := ∃ rows x8, r = [.frz false (.dict ((.none, .none) :: ns.map fun n => (.int n, .none))), .own false (.lst p), .frz false (webD m ts), .frz false t, x4, .frz false (webD m ts), x6, .own true (.ll rows), x8, x9, x10, .own false (.tab P Q)] ∧ rows.length = n ∧ (∀ row ∈ rows, row.length ≤ 2 + k) ∧ putSl.pinnedB x8 = false
set_option maxHeartbeats 8000000 in
theorem law01_ok (P : Nat) (ns : List Int) (h : ns.length ≤ 63) : Oks (sem_law_855cR P) [.fz (.dict ((.none, .none) :: ns.map fun n => (.int n, .none)))] fun v ys => v = .ok (.val (.bool true)) ∧ ys.length = 1 := by
  have lb : (lineD : Nat) = 16777216 := rfl
  obtain ⟨_, _, e1, p, rfl, rfl, hp⟩ := pen_ok h
  obtain ⟨_, _, e2, m, ts, p2, rfl, rfl, hw, hp2⟩ := web_ok hp (by omega) (pl := 25) (ti := 24) (by omega) (by omega)
  have hm : m ≤ 25 := hw.mN
  have hm1 : 1 ≤ m := hw.m1
  have hT : ts.length ≤ 24 := hw.len
  have ht := hw.ok
  obtain ⟨_, _, e3, t, es, p3, rfl, rfl, hh, hp3⟩ := handed_ok (m := m) (ts := ts) hp2 (by omega) hT
  obtain ⟨_, _, e4, rfl, rfl⟩ := web_of_yes ⟨hm1, hm⟩ hT ht hh.row hh.kn hh.len hh.itm
  have hle := hh.len
  have gr := gRepr_sho (sho_row hh.row (hh.shi hm ht) (by omega))
  have g0 : gIx [.fz (webD m ts), .fz (.int 0)] = some (.val (.int m)) := rfl
  have sW : SmD 3 (webD m ts) := by
    refine ⟨by simp, fun d hd => ?_⟩
    rcases List.mem_cons.mp hd with rfl | hd
    · trivial
    · rw [List.mem_singleton.mp hd]
      refine ⟨by rw [List.length_map]; omega, fun d hd => ?_⟩
      obtain ⟨q, _, rfl⟩ := List.mem_map.mp hd
      exact SmD_ti (ns := [q.1, q.2]) (by simp)
  have s1 := same2_refl 3 2 _ sW
  have rn := ref_ne "web"
  -- lists handed in, and the ties themselves
  have hnL : Hnd m ts (.list (ts.map fun q => hIt q true)) (ts.map fun q => hIt q true) := ⟨rfl, rfl, by rw [List.length_map], fun i q hq => ⟨true, by rw [List.getElem?_map, hq]; rfl⟩⟩
  have hnT : Hnd m ts (.list (ts.map tieD)) (ts.map tieD) := ⟨rfl, rfl, by rw [List.length_map], fun i q hq => ⟨false, by rw [List.getElem?_map, hq]; rfl⟩⟩
  obtain ⟨_, _, e5, rfl, rfl⟩ := web_of_yes ⟨hm1, hm⟩ hT ht hnL.row hnL.kn hnL.len hnL.itm
  obtain ⟨_, _, e6, rfl, rfl⟩ := web_of_yes ⟨hm1, hm⟩ hT ht hnT.row hnT.kn hnT.len hnT.itm
  have gLi : gList [.fz (.tuple (ts.map tieD))] = some (.new (.lst (ts.map tieD))) := rfl
  obtain ⟨T, hTT⟩ : ∃ T, T = PyData.shown t := ⟨_, rfl⟩
  rw [← hTT] at gr
  refine oks_def rfl ?_
  simp [-getElem?_pos, -List.getD_eq_getElem?_getD, -getElem?_neg, List.getElem?_cons_zero, List.getElem?_cons_succ, b_law_855cR, e1, e2, e3, gr, g0, e4, s1]
  obtain ⟨Q, hQ⟩ : ∃ Q : Str, Q = Str.ofString "law" ++ Str.ofString ".<locals>." ++ Str.ofString "<lambda>" := ⟨_, rfl⟩
  rw [← hQ]
  obtain ⟨N, hN⟩ : ∃ N, Pen N p3 ∧ N ≤ 5000 := ⟨_, hp3, by omega⟩
  refine forS_inv (Lp01 ns m ts t P Q N) (rng 0 9) 0 _ ?_ (fun k d r hd hI => ?_) (fun r hI => ?_)
  · exact ⟨_, _, _, _, p3, rfl, .frz, .non, .non, .non, hN.1⟩
  · rw [show (9 : Int) = ((9 : Nat) : Int) from rfl] at hd
    obtain ⟨rfl, hk⟩ := rng0_get hd
    rw [Nat.zero_add] at hI ⊢
    obtain ⟨x4, x6, x9, x10, p, rfl, h4, h6, h9, h10, hp⟩ := hI
    obtain ⟨_, _, f1, d, t', p', rfl, rfl, hd1, hd2, hd3, hd4, hp'⟩ := spoiled01_ok hp (by omega) ⟨hm1, hm⟩ hT ht
    have f2 := web_of_no hd1 hd2 hd3
    have f3 := gRepr_sho hd4
    obtain ⟨T', hT'⟩ : ∃ T, T = PyData.shown t' := ⟨_, rfl⟩
    rw [← hT'] at f3
    simp [-getElem?_pos, -List.getD_eq_getElem?_getD, -getElem?_neg, List.getElem?_cons_zero, List.getElem?_cons_succ, h4.pin, h6.pin, h9.pin, h10.pin, h4.al, h6.al, h9.al, h10.al, f1, f2, f3, rn]
    exact ⟨_, _, _, _, p', rfl, .frz, .frz, .frz, .frz, by rw [show N + 42 * (k + 1) = N + 42 * k + 42 by omega]; exact hp'⟩
  · obtain ⟨x4, x6, x9, x10, p, rfl, h4, h6, h9, h10, hp⟩ := hI
    have w1 : gIx [.fz (webD m ts), .fz (.int 1)] = some (.val (.tuple (ts.map tieD))) := rfl
    simp [-getElem?_pos, -List.getD_eq_getElem?_getD, -getElem?_neg, List.getElem?_cons_zero, List.getElem?_cons_succ, w1, anyPin]
    refine lcLK_map (fun d : D => match d with | .tuple ds => ds | _ => []) (fun d hd => ?_) (by rw [List.length_nil, List.length_map]; omega) ?_
    · obtain ⟨q, hq, rfl⟩ := List.mem_map.mp hd
      have gq : gList [.fz (tieD q)] = some (.new (.lst [.int q.1, .int q.2])) := rfl
      simp [-getElem?_pos, -List.getD_eq_getElem?_getD, -getElem?_neg, List.getElem?_cons_zero, List.getElem?_cons_succ, gq]
      rfl
    · have em : ([] : List (List D)) ++ (ts.map tieD).map (fun d : D => match d with | .tuple ds => ds | _ => []) = ts.map fun q => [PyData.int q.1, .int q.2] := by
        rw [List.nil_append, List.map_map]
        rfl
      rw [em]
      have e5' : sem_web_of_ac01R [.fz (.int m), .fz (.list ((ts.map fun q => [PyData.int q.1, .int q.2]).map .list))] = some (.ok (.val (webD m ts)), [.fz (.int m), .fz (.list ((ts.map fun q => [PyData.int q.1, .int q.2]).map .list))]) := by
        rw [show (ts.map fun q => [PyData.int q.1, .int q.2]).map PyData.list = ts.map fun q => hIt q true by rw [List.map_map]; rfl]
        exact e5
      have lw : lfree (webD m ts) = true := by
        have key : ∀ l : List (Int × Int), lfreeL (l.map tieD) = true := fun l => by
          induction l with
          | nil => rfl
          | cons x l ih =>
            rw [List.map_cons]
            unfold lfreeL
            rw [ih]
            rfl
        show (true && (lfreeL (ts.map tieD) && true)) = true
        rw [key]
        rfl
      obtain ⟨R, hR⟩ : ∃ R : List (List D), R = ts.map fun q => [PyData.int q.1, .int q.2] := ⟨_, rfl⟩
      have hRl : R.length = ts.length := by rw [hR, List.length_map]
      have hR2 : ∀ row ∈ R, row.length = 2 := fun row h => by
        rw [hR] at h
        obtain ⟨q, _, rfl⟩ := List.mem_map.mp h
        rfl
      rw [← hR] at e5' ⊢
      simp [-getElem?_pos, -List.getD_eq_getElem?_getD, -getElem?_neg, List.getElem?_cons_zero, List.getElem?_cons_succ, -List.map_map, h4.pin, h6.pin, h9.pin, h10.pin, h4.al, h6.al, h9.al, h10.al, g0, e5', lw]
      refine W_forA (i := 7) (j := 8) (b := false) (rows := R) rfl (by decide) (by simp [-getElem?_pos, -List.getD_eq_getElem?_getD, -getElem?_neg, List.getElem?_cons_zero, List.getElem?_cons_succ, h4.al, h6.al, h9.al, h10.al]) (Fa01 ns m ts t P Q x4 x6 x9 x10 p R.length) ?_ (fun k r hk hI => ?_) (fun r hI => ?_)
      · exact ⟨R, .non, rfl, rfl, fun row h => by rw [hR2 row h]; omega, rfl⟩
      · obtain ⟨rows, x8, rfl, hl, hrr, h8⟩ := hI
        refine ⟨rows, x8, rfl, rfl, by omega, h8, ?_⟩
        obtain ⟨row, hrow⟩ : ∃ row, rows[k]? = some row := ⟨_, List.getElem?_eq_getElem (by omega)⟩
        have hrl := hrr row (List.mem_of_getElem? hrow)
        have ll : row.length < lineD := by omega
        simp [-getElem?_pos, -List.getD_eq_getElem?_getD, -getElem?_neg, List.getElem?_cons_zero, List.getElem?_cons_succ, hrow, ll]
        refine ⟨_, _, rfl, by rw [List.length_set]; exact hl, fun row' h' => ?_, rfl⟩
        rcases List.mem_or_eq_of_mem_set h' with h | rfl
        · have := hrr row' h; omega
        · rw [List.length_append, List.length_singleton]; omega
      · obtain ⟨rows, x8, rfl, hl, hrr, h8⟩ := hI
        refine ⟨rows, x8, rfl, hl, rfl, h8, by simp [-getElem?_pos, -List.getD_eq_getElem?_getD, -getElem?_neg, List.getElem?_cons_zero, List.getElem?_cons_succ, h4.al, h6.al, h9.al, h10.al], ?_⟩
        simp [-getElem?_pos, -List.getD_eq_getElem?_getD, -getElem?_neg, List.getElem?_cons_zero, List.getElem?_cons_succ, -List.map_map, h4.pin, h6.pin, h9.pin, h10.pin, h4.al, h6.al, h9.al, h10.al, g0, s1, w1, gLi, e6]
end
end Lw
end

section
set_option maxHeartbeats 2000000
namespace DL
open PySem PySem.Spec PySem.Calls PyProof.Rows L2
open LamX (CodeO TabS TabB LamS lamEnv)
section
variable {X : Cx} {pins : List (Addr × Obj)} {σ : L2.St} {H : Hp} {s : Shared} {i : Nat} {z : Str}
theorem inv_ghost {v : Option V} (I : Inv X pins σ H s) (hi : X.N[i]? = some z) (hz : ¬ Vis X.env.scope z) : Inv X pins (σ.set i v) H s := by
  refine ⟨I.ok, I.os, I.bare, I.base, ?_, I.cell, I.free, I.freeC, I.pin, I.hok, by rw [List.length_set]; exact I.len⟩
  obtain ⟨m, hn, hl⟩ := I.loc
  refine ⟨m, hn, fun j x w e1 e2 e3 => ?_⟩
  by_cases hj : j = i
  · subst hj
    rw [hi] at e1
    cases e1
    exact absurd e3 hz
  · rw [List.getElem?_set_ne (Ne.symm hj)] at e2
    exact hl j x w e1 e2 e3
theorem pss_ghost {sts : List Stmt} {t : TS} (v : Option V) (h : PSs X sts t) (hi : X.N[i]? = some z) (hz : ¬ Vis X.env.scope z) : PSs X sts (fun D σ H => t D (σ.set i v) H) := ⟨fun pins s σ H D I q => h.run pins s _ H D (inv_ghost I hi hz) q⟩
end
/-- the promise of such a law -/
def spT (K : PySem.W.Frag) (mg : Str → Option Value) (body : S) (N : List Str) (i : Nat) (P : Addr) : Sp := fun vs H Q E =>
  vs.length = 1 ∧ tS ⟨K, mg⟩ (fun c d _ H => E c d H) body { nx := fun _ H' => Q .non H', rt := Q } ((L2.start N vs).set i (some (V.ref P))) H
theorem law_spT {K : PySem.W.Frag} {mg : Str → Option Value} {body : S} {N : List Str} {i m : Nat} {P : Addr} {q : Str} (h0 : 0 < i) (hi : i < N.length)
    (h : ∀ ns : List Int, ns.length ≤ m → ∃ ys, ys.length = 1 ∧ defSem 1 N.length (sSeq (sTab i P q) body) [.fz (scrD ns)] = some (.ok (.val (.bool true)), ys))
    (H : Hp) (a : Addr) (ns : List Int) (hl : ns.length ≤ m) (hP : H P = some (.tbl #[])) (hS : SqL K H a (ns.map V.int)) : spT K mg body N i P [.ref a] H (fun v _ => v = .bl true) fun _ _ _ => False := by
  obtain ⟨ys, hy, e⟩ := h ns hl
  refine ⟨rfl, ?_⟩
  -- all but the table stands still
  have hSB : SqL K (fun b => if b = P then none else H b) a (ns.map V.int) := by
    have at_ : ∀ u, H a = some u → (∀ ps, u ≠ .tbl ps) → (if a = P then none else H a) = some u := fun u hu nt => by
      rw [if_neg fun z => nt #[] (Option.some.inj (hu.symm.trans (by rw [z]; exact hP)))]
      exact hu
    rcases hS with (g | ⟨o, g⟩) | g
    · exact .inl (.inl (at_ _ g fun ps z => by cases z))
    · exact .inl (.inr ⟨o, at_ _ g fun ps z => by cases z⟩)
    · exact .inr g
  have c0 : Con K (fun b => if b = P then none else H b) H ([V.ref a].map some) ([Rs.fz (scrD ns)].map toSl) (fun _ => False) := by
    refine ⟨⟨fun b u z => ?_, fun _ h => h.elim, fun _ h => h.elim, rfl, fun i b d h => ?_, fun i b c h => ?_, fun i j b c b' c' l l' F F' _ h => ?_⟩, fun i j k h => ?_⟩
    · have z : (if b = P then none else H b) = some u := z
      split at z
      · cases z
      · exact z
    · cases i with
      | zero => cases h; exact ⟨.ref a, rfl, .scr hSB rfl⟩
      | succ i => simp at h
    · cases i with
      | zero => cases h
      | succ i => simp at h
    · cases i with
      | zero => cases h
      | succ i => simp at h
    · cases i with
      | zero => cases h
      | succ i => simp at h
  have c1 := c0.pad (N := N) (by simp; omega)
  have c2 := c1.grow (F := [P]) fun b hb => by
    rw [List.mem_singleton.mp hb]
    exact ⟨if_pos rfl, by rw [hP]; simp⟩
  have ls : (L2.start N [V.ref a]).length = N.length := by
    unfold L2.start
    simp
    omega
  have noOwn : ∀ (j : Nat) b ct, ([Rs.fz (scrD ns)].map toSl ++ List.replicate (N.length - [V.ref a].length) Sl.non)[j]? ≠ some (Sl.own b ct) := fun j b ct z => by
    cases j with
    | zero => cases z
    | succ j =>
      simp [List.getElem?_replicate] at z
  have c3 := c2.replace (i := i) (x := .own false (.tab P q)) (σ' := (L2.start N [V.ref a]).set i (some (V.ref P))) List.length_set (fun j n => List.getElem?_set_ne (Ne.symm n))
    ⟨P, [P], List.getElem?_set_self (by omega), ⟨rfl, #[], hP, rfl, True.intro, fun pos cv z => by
      have z : codeAmong pos [] = some cv := z
      simp [codeAmong] at z⟩, fun b hb => .inr hb, fun j b' c' l' F' _ he => absurd he (noOwn j b' c')⟩ (fun b rows z => by cases z)
  unfold defSem at e
  rw [if_pos (show [Rs.fz (scrD ns)].length = 1 from rfl)] at e
  unfold sSeq at e
  unfold sTab at e
  rw [if_pos (by simp; omega)] at e
  simp only at e
  refine ⟨_, _, _, c3, ?_⟩
  cases g : body ((([Rs.fz (scrD ns)].map toSl ++ List.replicate (N.length - [V.ref a].length) Sl.non)).set i (.own false (.tab P q))) with
  | none =>
    rw [show N.length - [V.ref a].length = N.length - 1 from rfl] at g
    rw [g] at e
    cases e
  | some z =>
    obtain ⟨so, r'⟩ := z
    rw [show N.length - [V.ref a].length = N.length - 1 from rfl] at g
    rw [g] at e
    refine ⟨so, r', rfl, ?_⟩
    cases so with
    | nx => cases e
    | brk => cases e
    | cnt => cases e
    | ret v =>
      simp only [Option.some.injEq, Prod.mk.injEq, EO.ok.injEq] at e
      obtain ⟨rfl, _⟩ := e
      exact fun B' H' O' σ' x st ct bt rv => dp_bl rv
    | rets k =>
      simp only [handOn] at e
      split at e
      · split at e
        · cases e
        · cases e
      · cases e
    | exc x => cases e
end DL
end

section
set_option maxHeartbeats 2000000
namespace DL
open PySem PySem.Spec PySem.Calls PyProof.Rows L2
open LamX (CodeO TabS TabB LamS lamEnv)
theorem defU_ok {P : Program} {w : World} {K : PySem.W.Frag} {mg : Str → Option Value} {base : Heap} {x qual : Str} {st : Stmt} {f c Pt : Addr} {N : List Str} {k i : Nat} {y z : Str} {body : S} {kV doc pm ct oc : Value} {an od : Option Addr} {osl : Array (Option Value)} {A : Around} (hr : Room (k + 1) A) (hG : A.guards = some [])
    (lk : K.lookup f = some ⟨oc, od, .func (PySem.W.fnOf x qual (defArgs st) (defBody st) (defScope st) .none kV doc pm an (.ref c) ct), osl⟩) (hcd : PySem.W.codeIn K (.ref c) qual = true) (Sc : FnScope N [y] (defScope st)) (hi : N[i]? = some z) (hz : ¬ Vis (defScope st) z)
    (hb : ∀ (B : Around) (st' : List Env) (s : Shared) (H : Hp) (E : XK), Room k (B.deeper (envOfC qual (defScope st) s.heap.objs.size f (.ref c))) → (B.deeper (envOfC qual (defScope st) s.heap.objs.size f (.ref c))).guards = some [] →
      L2N.Takes (cxOf (L2N.CX P w) P w K mg base N qual (defScope st) f (.ref c) B st' s H E) (fun c d _ H => E c d H) →
      DSs (cxOf (L2N.CX P w) P w K mg base N qual (defScope st) f (.ref c) B st' s H E) (fun c d _ H => E c d H) (defBody st) body) :
    FnAt P w K mg base A f (PySem.W.fnOf x qual (defArgs st) (defBody st) (defScope st) .none kV doc pm an (.ref c) ct) [y] (spT K mg body N i Pt) := by
  intro stk s H as us vs Q E env bnd rel hsp
  have here : ∀ b o, base.get? b = some o → s.heap.get? b = some o := fun b o e => (env.bs b o e).1
  have KH : K.In s.heap := env.mod.kin.keeps here
  have free : s.heap.NoLimit := env.mod.nolimit.keeps here
  have kinds : ∀ p ∈ [y].zip us, (defScope st).names.lookup p.1 = some .local ∨ ((defScope st).names.lookup p.1 = some .cell ∧ ((cellsFrom (s.heap.objs.size + 1) (defScope st).names []).lookup p.1).isSome = true) := by
    rintro ⟨n, v⟩ hp
    exact (Sc.par n (List.of_mem_zip hp).1).imp id fun q => ⟨q, PySem.W.cellsFrom_some _ _ _ (.inl q)⟩
  refine codeAny_call_function hr.depth (KH _ _ lk) rfl Sc.co Sc.gen rfl (PySem.W.codeRec_of KH hcd) (bnd _ _ _ _ (wpAny_newFunctionEnv_cells Sc.kind kinds fun en hen s1 new => ?_))
  cases hen
  refine ⟨free.keeps new.toInCall.keep, codeAny_func ?_⟩
  have D := pss_ghost (some (V.ref Pt)) (hb A stk s H E (hr.deeper _) hG (L2N.takes_of rfl rfl rfl rfl)) hi hz
  have I0 := inv_start (CX := L2N.CX P w) (E := E) Sc hr.hd env hsp.1 rel new
  refine wpAny_mono (D.run [] s1 (start N vs) H _ I0 hsp.2) (fun o s2 ho => ?_) fun _ _ h => h
  cases o with
  | next =>
    obtain ⟨σ2, H2, I2, q⟩ := ho
    exact ⟨.non, H2, I2.os, I2.bare, I2.base, I2.hok, rfl, q⟩
  | ret u =>
    obtain ⟨v, σ2, H2, I2, rv, q⟩ := ho
    exact ⟨v, H2, I2.os, I2.bare, I2.base, I2.hok, rv, q⟩
  | brk => exact ho.elim fun _ h => h.elim fun _ h => h.2.elim
  | cont => exact ho.elim fun _ h => h.elim fun _ h => h.2.elim
/-- a law's def asked at the top: the script and its own table are told of the heap -/
theorem ask_lawT {P : Program} {w : World} {K : PySem.W.Frag} {mg mb : Str → Option Value} {fa a c Pt : Addr} {fd : FuncData} {x : Str} {sp : Sp} {s : Shared} {vs : List Value} {ns : List Int}
    (KX : K.In s.heap) (n1 : s.heap.Ns mainGlobals mg) (n2 : s.heap.Ns builtinsNs mb) (n3 : ∀ x : Str, x ≠ "__name__" → mb x = bootBuiltins x) (n4 : s.heap.NoLimit) (hg : s.gens = #[])
    (hT : s.heap.get? Pt = some { cls := .none, data := .fields #[] }) (nT : K.lookup Pt = none) (C : PySem.W.CodeHd s.heap c Pt)
    (hbm : ∃ (bm : Addr) (ob : Obj), mg "__builtins__" = some (.ref bm) ∧ bm ≠ builtinsNs ∧ s.heap.get? bm = some ob ∧ ob.cls = .type "module" ∧ ob.dict = some builtinsNs ∧ ob.data = .plain)
    (ha : s.heap.get? a = some { cls := .type "list", data := .seq vs.toArray }) (hi : IntsAre vs ns) (hl : ns.length ≤ sizeLine)
    (F : ∀ base : Heap, K.In base → base.Ns mainGlobals mg → TabB base mg c Pt → FnAt P w K mg base callerA fa fd [x] sp) (hb : ∀ (s : Shared) (u : Value), BindsTo s fd ⟨[u], []⟩ [(x, u)])
    (hsp : ∀ H : Hp, H Pt = some (.tbl #[]) → SqL K H a (ns.map V.int) → sp [.ref a] H (fun v _ => v = .bl true) fun _ _ _ => False) :
    codeAny (model P w) callerA (.call (.ref fa) ⟨[.ref a], []⟩) (fun r s' => r = .ok (.ret (.bool true)) ∧ OldK s.heap s'.heap ∧ s'.os = s.os ∧ AllBare s'.gens) s := by
  have vals := vals_ints hi
  let scr : HO := .frz { cls := .type "list", data := .seq vs.toArray } (.lst (ns.map V.int))
  have aP : a ≠ Pt := fun z => by
    rw [z, hT] at ha
    cases ha
  suffices go : ∀ H : Hp, H Pt = some (.tbl #[]) → (∀ b u, H b = some u → (b = a ∧ u = scr ∧ K.lookup a = none) ∨ (b = Pt ∧ u = .tbl #[])) → SqL K H a (ns.map V.int) →
      codeAny (model P w) callerA (.call (.ref fa) ⟨[.ref a], []⟩) (fun r s' => r = .ok (.ret (.bool true)) ∧ OldK s.heap s'.heap ∧ s'.os = s.os ∧ AllBare s'.gens) s by
    cases hk : K.lookup a with
    | none =>
      refine go (fun b => if b = a then some scr else if b = Pt then some (.tbl #[]) else none) ((if_neg (Ne.symm aP)).trans (if_pos rfl)) (fun b u e => ?_) (.inl (.inr ⟨_, if_pos rfl⟩))
      by_cases q : b = a
      · rw [if_pos q] at e
        cases e
        exact .inl ⟨q, rfl, hk⟩
      · rw [if_neg q] at e
        by_cases q2 : b = Pt
        · rw [if_pos q2] at e
          cases e
          exact .inr ⟨q2, rfl⟩
        · rw [if_neg q2] at e
          cases e
    | some o =>
      have e := ha.symm.trans (KX a o hk)
      cases e
      refine go (fun b => if b = Pt then some (.tbl #[]) else none) (if_pos rfl) (fun b u e => ?_) (.inr ⟨_, vs.toArray, _, hk, rfl, rfl, rfl, ?_, by simpa using vals⟩)
      · by_cases q2 : b = Pt
        · rw [if_pos q2] at e
          cases e
          exact .inr ⟨q2, rfl⟩
        · rw [if_neg q2] at e
          cases e
      · rw [List.size_toArray, hi.length]
        exact hl
  intro H hP hH sq
  have okH : HOk P w H s.heap := fun b u e => by
    rcases hH b u e with ⟨rfl, rfl, -⟩ | ⟨rfl, rfl⟩
    · exact ⟨ha, by rw [List.length_map]; exact hl, vs, _, vals, ha⟩
    · exact hT
  have low : ∀ {b : Addr} {o : Obj}, s.heap.get? b = some o → H b = none → (hidT s.heap H).get? b = some o := fun e n => hidT_get e n
  -- what is no row and no empty table is not told of
  have un : ∀ {b : Addr} {o : Obj}, s.heap.get? b = some o → (∀ vs n, o.data ≠ .seq vs n) → o.data ≠ .fields #[] → H b = none := fun {b o} e h1 h2 => by
    cases q : H b with
    | none => rfl
    | some u =>
      rcases hH b u q with ⟨rfl, -, -⟩ | ⟨rfl, -⟩
      · cases ha.symm.trans e
        exact absurd rfl (h1 _ _)
      · cases hT.symm.trans e
        exact absurd rfl h2
  have dic : ∀ {b : Addr} {m : Str → Option Value}, s.heap.Ns b m → (hidT s.heap H).Ns b m := by
    rintro b m ⟨o, es, ep, e, d, t⟩
    exact ⟨o, es, ep, low e (un e (fun vs n z => by rw [d] at z; cases z) fun z => by rw [d] at z; cases z), d, t⟩
  have KB : K.In (hidT s.heap H) := fun b o e => low (KX b o e) (by
    cases q : H b with
    | none => rfl
    | some u =>
      rcases hH b u q with ⟨rfl, -, n⟩ | ⟨rfl, -⟩
      · cases n.symm.trans e
      · cases nT.symm.trans e)
  have TB : TabB (hidT s.heap H) mg c Pt := by
    refine ⟨?_, ?_, fun z => ?_⟩
    · obtain ⟨o, us, file, tf, flags, tg, inF, text, tt, e1, r1, r2, r3, r⟩ := C
      refine ⟨o, us, file, tf, flags, tg, inF, text, tt, low e1 (un e1 (fun vs n z => by rw [r2] at z; cases z) fun z => ?_), r1, r2, r3, r⟩
      rw [r2] at z
      cases z
      simp at r3
    · obtain ⟨bm, ob, b1, b2, b3, b4, b5, b6⟩ := hbm
      refine ⟨bm, ob, b1, b2, fun q => ?_, fun q => ?_, low b3 (un b3 (fun vs n z => by rw [b6] at z; cases z) fun z => by rw [b6] at z; cases z), b4, b5, b6⟩
      · obtain ⟨o, es, ep, e, hd, _⟩ := n1
        rw [q, e] at b3
        cases b3
        rw [hd] at b6
        cases b6
      · rw [q, hT] at b3
        cases b3
        cases b6
    · obtain ⟨o, es, ep, e, hd, _⟩ := n1
      rw [z, hT] at e
      cases e
      cases hd
  obtain ⟨mc, l1, l2⟩ := n4
  have env : Env0 P w K mg (hidT s.heap H) callerA [] s H :=
    ⟨rfl, ⟨KB, dic n1, ⟨mb, dic n2, n3⟩, ⟨mc, dic l1, l2⟩⟩, fun _ _ e => of_hidT e, Nat.le_of_eq (hidT_size _ _), trivial, fun b h => absurd h (by simp [frs]), okH, .of_eq hg⟩
  refine codeAny_mono (F _ KB (dic n1) TB [] s H ⟨[.ref a], []⟩ [.ref a] [.ref a] _ _ env (hb s (.ref a)) (.cons rfl .nil) (hsp H hP sq)) fun r s' h => ?_
  match r, h with
  | .error e, h => exact (cx_no h).elim
  | .ok (.ret u), ⟨v, H', os, bare, kep, ok', rv, q⟩ =>
    obtain rfl : v = .bl true := q
    obtain rfl : u = Value.bool true := rv
    obtain ⟨more, hm⟩ := kep.tbls Pt #[] hP
    have grown : s'.heap.get? Pt = some { cls := .none, data := .fields (#[] ++ more) } := ok' Pt _ hm
    have others : ∀ b o, b ≠ Pt → s.heap.get? b = some o → s'.heap.get? b = some o := fun b o nb e => by
      cases q : H b with
      | none => exact kep.keep b o e q (fun z => by simp [frs] at z) (by simp)
      | some u =>
        rcases hH b u q with ⟨rfl, rfl, -⟩ | ⟨rfl, -⟩
        · cases ha.symm.trans e
          exact (ok' _ _ (kep.frzs _ _ _ q)).1
        · exact absurd rfl nb
    refine ⟨rfl, ⟨fun b o e => ?_, fun b o e => ?_⟩, os, bare⟩
    · by_cases hbP : b = Pt
      · subst hbP
        cases hT.symm.trans e
        exact .inr (.inl ⟨(C.tab hT).isCodeTable, rfl, #[], more, rfl, grown⟩)
      · exact .inl (others b o hbP e)
    · by_cases hbP : b = Pt
      · subst hbP
        exact ⟨_, grown⟩
      · exact ⟨o, others b o hbP e⟩
/-- from the meaning of such a text to the row -/
theorem walk_dU {l : PySem.W.OpenLaw} {n i : Nat} {q : Program} {loose : List Str} {XP : (Str → Option Value) → Heap → Prop} {YP : World → Heap → Prop} {d : DefRec} {K : Params → PySem.W.Frag} {x qn : Str} {N : List Str} {body : Nat → S}
    (hn : l.most = some n) (hn2 : n ≤ sizeLine) (hdf : d.params.defaults = []) (hrec : ((recsOf q).any fun e => e.name == d.name) = true) (hY : ∀ (w : World) (h : Heap), YP w h → (K w.params).In h) (h0 : 0 < i) (hi : i < N.length)
    (ht : ∀ (P : Nat) (ns : List Int), ns.length ≤ n → ∃ ys, ys.length = 1 ∧ defSem 1 N.length (sSeq (sTab i P qn) (body P)) [.fz (scrD ns)] = some (.ok (.val (.bool true)), ys))
    (F : ∀ (w : World) (mg : Str → Option Value) (fa : Addr) (h : Heap), (K w.params).In h → h.Ns mainGlobals mg → mg d.name = some (.ref fa) →
      ∃ (fd : FuncData) (o : Obj) (c P : Addr) (e : Value) (dd : Option Addr) (vs : Array Value) (sl : Array (Option Value)), (K w.params).lookup fa = some o ∧ o.data = .func fd ∧ fd.code = .ref c ∧ (K w.params).lookup c = some ⟨e, dd, .fields vs, sl⟩ ∧ vs[11]? = some (.ref P) ∧ (K w.params).lookup P = none ∧
        (∀ (s : Shared) (v : Value), BindsTo s fd ⟨[v], []⟩ [(x, v)]) ∧ ∀ base : Heap, (K w.params).In base → base.Ns mainGlobals mg → TabB base mg c P → FnAt l.prog w (K w.params) mg base callerA fa fd [x] (spT (K w.params) mg (body P) N i P)) :
    PySem.W.WalkO q loose XP YP l.row.toRowW d [] (fun f vs => PySem.call f vs) := by
  refine Att.attach_callB hn hdf fun w s₀ s₁ mg mb fa o pm cd doc a vs ns G Y ho hd hcd hmg hobj hints hlen hbits hg => ?_
  have KX := hY w _ Y
  obtain ⟨fd, o1, c, P, e, dd, vc, sl, k1, k2, k3, k4, k5, nP, hb, hF⟩ := F w mg fa _ KX G.T.g hmg
  obtain ⟨dL, hm, hn1⟩ := List.any_eq_true.mp hrec
  obtain ⟨a', o', fd', c', P', t1, t2, t3, t4, t5, t6⟩ := G.T.tab dL hm
  rw [beq_iff_eq.mp hn1, hmg] at t1
  cases t1
  rw [KX _ _ k1] at t2
  cases t2
  rw [k2] at t3
  cases t3
  rw [k3] at t4
  cases t4
  have C := PySem.W.CodeHd.of t5 t6
  obtain ⟨⟨oc, vc', e1, _, e3, e4⟩, hP⟩ := t6
  rw [KX _ _ k4] at e1
  cases e1
  cases e3
  rw [k5] at e4
  cases e4
  exact ask_lawT KX G.T.g G.T.b G.T.builtins G.T.nolimit hg hP nP C G.T.bmain hobj hints (Nat.le_trans hlen hn2) hF hb fun H hH hS => law_spT h0 hi (ht P) H a ns hlen hH hS
end DL
end

section
namespace Lw
open PySem PySem.Spec PyProof.Rows L2 DL
def topS (i : Nat) : Stmt := PySem.Challenge.pw_holefloor_k01_webs_made.main.body.getD i (.Pass ⟨0, 0, 0, 0⟩)
abbrev s_is_whole : Stmt := topS 18
abbrev s_is_row : Stmt := topS 19
abbrev s_are_whole : Stmt := topS 20
abbrev s_is_tie : Stmt := topS 24
abbrev s_web_of : Stmt := topS 25
abbrev s_Lpen : Stmt := topS 27
abbrev s_Ldraw : Stmt := topS 28
abbrev s_Lweb : Stmt := topS 29
abbrev s_Lword : Stmt := topS 30
abbrev s_Ltold : Stmt := topS 31
abbrev s_Lsame : Stmt := topS 32
abbrev s_Lhanded : Stmt := topS 33
abbrev s_Lspoiled : Stmt := topS 34
abbrev s_law : Stmt := topS 35
section
variable {P : Program} {w : World} {K : PySem.W.Frag} {mg : Str → Option Value} {base : Heap}
theorem sc_is_whole : FnScope ["thing"] ["thing"] (defScope s_is_whole) := ⟨rfl, rfl, rfl, by decide +kernel, rfl, by decide +kernel, by decide +kernel⟩
set_option maxHeartbeats 4000000 in
theorem ok_is_whole {k : Nat} {f : Addr} {fd : FuncData} (F : Fun K "is_whole" "is_whole" s_is_whole f fd) (z_isinstance : mg "isinstance" = none) (z_int : mg "int" = none) (z_bool : mg "bool" = none) :
    FnOk P w K mg base (L2N.CX P w) (k + 1) f fd ["thing"] (spD K mg (defSem 1 1 b_is_whole_637d) 1) :=
  def_ok (N := ["thing"]) F sc_is_whole (by decide) fun cdv A outer s H E hr tk =>
    (dss_one (ds_ret (de_and (de_isi (t := .int) (by rfl) z_isinstance (by rfl) z_int (do_var (pv 0)) (by decide +kernel)) (de_one (de_not (de_isi (t := .bool) (by rfl) z_isinstance (by rfl) z_bool (do_var (pv 0)) (by decide +kernel)))))))
theorem sc_is_row : FnScope ["thing"] ["thing"] (defScope s_is_row) := ⟨rfl, rfl, rfl, by decide +kernel, rfl, by decide +kernel, by decide +kernel⟩
set_option maxHeartbeats 4000000 in
theorem ok_is_row {k : Nat} {f : Addr} {fd : FuncData} (F : Fun K "is_row" "is_row" s_is_row f fd) (z_isinstance : mg "isinstance" = none) (z_list : mg "list" = none) (z_tuple : mg "tuple" = none) :
    FnOk P w K mg base (L2N.CX P w) (k + 1) f fd ["thing"] (spD K mg (defSem 1 1 b_is_row_acca) 1) :=
  def_ok (N := ["thing"]) F sc_is_row (by decide) fun cdv A outer s H E hr tk =>
    (dss_one (ds_ret (de_isi2 (t := .list) (t2 := .tuple) (by rfl) z_isinstance (by rfl) z_list (by rfl) z_tuple (do_var (pv 0)) (by decide +kernel) (by decide +kernel))))
theorem sc_are_whole : FnScope ["things", "thing"] ["things"] (defScope s_are_whole) := ⟨rfl, rfl, rfl, by decide +kernel, rfl, by decide +kernel, by decide +kernel⟩
set_option maxHeartbeats 4000000 in
theorem ok_are_whole {k : Nat} {f : Addr} {fd : FuncData} (F : Fun K "are_whole" "are_whole" s_are_whole f fd) {f_is_whole : Addr} {fd_is_whole : FuncData} (G_is_whole : FnOk P w K mg base (L2N.CX P w) k f_is_whole fd_is_whole ["thing"] (spD K mg sem_is_whole_637d 1)) (g_is_whole : mg "is_whole" = some (.ref f_is_whole)) (k_is_whole : PySem.W.keepIn K (.ref f_is_whole) = true) (B_is_whole : Binds K fd_is_whole ["thing"] []) (z_all : mg "all" = none) :
    FnOk P w K mg base (L2N.CX P w) (k + 1) f fd ["things"] (spD K mg (defSem 1 2 b_are_whole_5b5d) 1) :=
  def_ok (N := ["things", "thing"]) F sc_are_whole (by decide) fun cdv A outer s H E hr tk =>
    (dss_one (ds_ret (de_cb (cd_all rfl) (by rfl) z_all (by decide +kernel) (da_cons (do_of (de_lc (own := [("thing", 1)]) rfl sc_are_whole.nd (di_seq (lo := false) (de_var (pv 0))) (blkOk_by (own := [("thing", 1)]) (by first | rfl | decide +kernel)) (fun _ _ _ _ _ => (dg_name sc_are_whole.nd rfl (by first | exact Or.inl rfl | exact Or.inr rfl))) (fun _ _ _ _ _ => dts_nil) (fun _ _ _ _ _ => (de_call takesN0 G_is_whole hr (by rfl) g_is_whole k_is_whole B_is_whole rfl (da_cons (do_var (pv 1)) da_nil))) (by decide))) da_nil))))
theorem sc_is_tie : FnScope ["thing", "many"] ["thing", "many"] (defScope s_is_tie) := ⟨rfl, rfl, rfl, by decide +kernel, rfl, by decide +kernel, by decide +kernel⟩
set_option maxHeartbeats 4000000 in
theorem ok_is_tie {k : Nat} {f : Addr} {fd : FuncData} (F : Fun K "is_tie" "is_tie" s_is_tie f fd) {f_is_row : Addr} {fd_is_row : FuncData} (G_is_row : FnOk P w K mg base (L2N.CX P w) k f_is_row fd_is_row ["thing"] (spD K mg sem_is_row_acca 1)) (g_is_row : mg "is_row" = some (.ref f_is_row)) (k_is_row : PySem.W.keepIn K (.ref f_is_row) = true) (B_is_row : Binds K fd_is_row ["thing"] []) {f_are_whole : Addr} {fd_are_whole : FuncData} (G_are_whole : FnOk P w K mg base (L2N.CX P w) k f_are_whole fd_are_whole ["things"] (spD K mg sem_are_whole_5b5d 1)) (g_are_whole : mg "are_whole" = some (.ref f_are_whole)) (k_are_whole : PySem.W.keepIn K (.ref f_are_whole) = true) (B_are_whole : Binds K fd_are_whole ["things"] []) (z_len : mg "len" = none) (z_min : mg "min" = none) (z_max : mg "max" = none) :
    FnOk P w K mg base (L2N.CX P w) (k + 1) f fd ["thing", "many"] (spD K mg (defSem 2 2 b_is_tie_8dfc) 2) :=
  def_ok (N := ["thing", "many"]) F sc_is_tie (by decide) fun cdv A outer s H E hr tk =>
    (dss_cons (ds_if (db_w (dw_or (db_not (db_val (de_call tk G_is_row hr (by rfl) g_is_row k_is_row B_is_row rfl (da_cons (do_var (pv 0)) da_nil)))) (dw_or (db_cmp (od_ne hr.units) (do_of (de_cb cd_len (by rfl) z_len (by decide +kernel) (da_cons (do_var (pv 0)) da_nil))) (do_of de_int) (nomark _)) (dw_or1 (db_not (db_val (de_call tk G_are_whole hr (by rfl) g_are_whole k_are_whole B_are_whole rfl (da_cons (do_var (pv 0)) da_nil)))))))) (dss_one (ds_ret de_bl)) dss_nil)
    (dss_one (ds_ret (de_and (de_cmp od_le (do_of de_int) (do_of (de_cb (cd_minL rfl hr.units) (by rfl) z_min (by decide +kernel) (da_cons (do_var (pv 0)) da_nil))) (nomark _)) (de_one (de_cmp od_lt (do_of (de_cb (cd_maxL rfl hr.units) (by rfl) z_max (by decide +kernel) (da_cons (do_var (pv 0)) da_nil))) (do_var (pv 1)) (nomark _)))))))
theorem sc_web_of : FnScope ["many", "ties", "tie"] ["many", "ties"] (defScope s_web_of) := ⟨rfl, rfl, rfl, by decide +kernel, rfl, by decide +kernel, by decide +kernel⟩
set_option maxHeartbeats 4000000 in
theorem ok_web_of {k : Nat} {f : Addr} {fd : FuncData} (F : Fun K "web_of" "web_of" s_web_of f fd) {f_is_whole : Addr} {fd_is_whole : FuncData} (G_is_whole : FnOk P w K mg base (L2N.CX P w) k f_is_whole fd_is_whole ["thing"] (spD K mg sem_is_whole_637d 1)) (g_is_whole : mg "is_whole" = some (.ref f_is_whole)) (k_is_whole : PySem.W.keepIn K (.ref f_is_whole) = true) (B_is_whole : Binds K fd_is_whole ["thing"] []) {f_is_row : Addr} {fd_is_row : FuncData} (G_is_row : FnOk P w K mg base (L2N.CX P w) k f_is_row fd_is_row ["thing"] (spD K mg sem_is_row_acca 1)) (g_is_row : mg "is_row" = some (.ref f_is_row)) (k_is_row : PySem.W.keepIn K (.ref f_is_row) = true) (B_is_row : Binds K fd_is_row ["thing"] []) {f_is_tie : Addr} {fd_is_tie : FuncData} (G_is_tie : FnOk P w K mg base (L2N.CX P w) k f_is_tie fd_is_tie ["thing", "many"] (spD K mg sem_is_tie_8dfc 2)) (g_is_tie : mg "is_tie" = some (.ref f_is_tie)) (k_is_tie : PySem.W.keepIn K (.ref f_is_tie) = true) (B_is_tie : Binds K fd_is_tie ["thing", "many"] []) (z_MOST_PLACES : ∃ t, mg "MOST_PLACES" = some (.int 25 t)) (z_len : mg "len" = none) (z_MOST_TIES : ∃ t, mg "MOST_TIES" = some (.int 24 t)) (z_tuple : mg "tuple" = none) {C_NoWeb : Addr} (x_NoWeb : ExK K mg "NoWeb" C_NoWeb) :
    FnOk P w K mg base (L2N.CX P w) (k + 1) f fd ["many", "ties"] (spD K mg (defSem 2 3 b_web_of_ac01R) 2) :=
  def_ok (N := ["many", "ties", "tie"]) F sc_web_of (by decide) fun cdv A outer s H E hr tk =>
    (dss_cons (ds_if (db_w (dw_or (db_not (db_val (de_call tk G_is_whole hr (by rfl) g_is_whole k_is_whole B_is_whole rfl (da_cons (do_var (pv 0)) da_nil)))) (dw_or (db_cmp od_lt (do_var (pv 0)) (do_of de_int) (nomark _)) (dw_or1 (db_cmp od_gt (do_var (pv 0)) (do_of (de_globI (by rfl) z_MOST_PLACES)) (nomark _)))))) (dss_one (ds_raise (cls := "NoWeb") rfl tk x_NoWeb (by rfl))) dss_nil)
    (dss_cons (ds_if (db_w (dw_or (db_not (db_val (de_call tk G_is_row hr (by rfl) g_is_row k_is_row B_is_row rfl (da_cons (do_var (pv 1)) da_nil)))) (dw_or1 (db_cmp od_gt (do_of (de_cb cd_len (by rfl) z_len (by decide +kernel) (da_cons (do_var (pv 1)) da_nil))) (do_of (de_globI (by rfl) z_MOST_TIES)) (nomark _))))) (dss_one (ds_raise (cls := "NoWeb") rfl tk x_NoWeb (by rfl))) dss_nil)
    (dss_cons (ds_for (passes_of rfl) rfl (di_seq (lo := false) (de_var (pv 1))) (dg_name sc_web_of.nd rfl (by first | exact Or.inl rfl | exact Or.inr rfl)) (dss_one (ds_if (db_not (db_val (de_call tk G_is_tie hr (by rfl) g_is_tie k_is_tie B_is_tie rfl (da_cons (do_var (pv 2)) (da_cons (do_var (pv 0)) da_nil))))) (dss_one (ds_raise (cls := "NoWeb") rfl tk x_NoWeb (by rfl))) dss_nil)))
    (dss_one (ds_ret (de_tup (da_cons (do_of (de_var (pv 0))) (da_cons (do_of (de_ct cd_tuple (by rfl) z_tuple (by decide +kernel) (da_cons (do_of (de_lc (own := [("tie", 2)]) rfl sc_web_of.nd (di_seq (lo := false) (de_var (pv 1))) (blkOk_by (own := [("tie", 2)]) (by first | rfl | decide +kernel)) (fun _ _ _ _ _ => (dg_name sc_web_of.nd rfl (by first | exact Or.inl rfl | exact Or.inr rfl))) (fun _ _ _ _ _ => dts_nil) (fun _ _ _ _ _ => (de_tup (da_cons (do_of (de_ix ixd_get (do_var (pv 2)) (do_of de_int) (fun _ _ => rfl))) (da_cons (do_of (de_ix ixd_get (do_var (pv 2)) (do_of de_int) (fun _ _ => rfl))) da_nil)))) (by decide))) da_nil))) da_nil))))))))
theorem sc_Lpen : FnScope ["_law_script", "_law_cell"] ["_law_script"] (defScope s_Lpen) := ⟨rfl, rfl, rfl, by decide +kernel, rfl, by decide +kernel, by decide +kernel⟩
set_option maxHeartbeats 4000000 in
theorem ok_Lpen {k : Nat} {f : Addr} {fd : FuncData} (F : Fun K "_law_pen" "_law_pen" s_Lpen f fd) :
    FnOk P w K mg base (L2N.CX P w) (k + 1) f fd ["_law_script"] (spD K mg (defSem 1 2 b_Lpen_3d2f) 1) :=
  def_ok (N := ["_law_script", "_law_cell"]) F sc_Lpen (by decide) fun cdv A outer s H E hr tk =>
    (dss_one (ds_ret (de_lst (da_cons (do_of (de_lc (own := [("_law_cell", 1)]) rfl sc_Lpen.nd (di_seq (lo := false) (de_slice (do_var (pv 0)) dp_none (dp_some (do_of de_int)))) (blkOk_by (own := [("_law_cell", 1)]) (by first | rfl | decide +kernel)) (fun _ _ _ _ _ => (dg_name sc_Lpen.nd rfl (by first | exact Or.inl rfl | exact Or.inr rfl))) (fun _ _ _ _ _ => dts_nil) (fun _ _ _ _ _ => (de_var (pv 1))) (by decide))) (da_cons (do_of de_int) (da_cons (do_of de_int) da_nil))))))
theorem sc_Ldraw : FnScope ["_law_pen_here", "_law_many", "_law_at", "_law_cell", "_law_number", "_law_digit"] ["_law_pen_here", "_law_many"] (defScope s_Ldraw) := ⟨rfl, rfl, rfl, by decide +kernel, rfl, by decide +kernel, by decide +kernel⟩
set_option maxHeartbeats 4000000 in
theorem ok_Ldraw {k : Nat} {f : Addr} {fd : FuncData} (F : Fun K "_law_draw" "_law_draw" s_Ldraw f fd) (z_len : mg "len" = none) (z_abs : mg "abs" = none) :
    FnOk P w K mg base (L2N.CX P w) (k + 1) f fd ["_law_pen_here", "_law_many"] (spD K mg (defSem 2 6 b_Ldraw_de5b) 2) :=
  def_ok (N := ["_law_pen_here", "_law_many", "_law_at", "_law_cell", "_law_number", "_law_digit"]) F sc_Ldraw (by decide) fun cdv A outer s H E hr tk =>
    (dss_cons (ds_if (db_cmp od_gt (do_of (de_ix ixd_get (do_var (pv 0)) (do_of de_int) (fun _ _ => rfl))) (do_of de_int) (nomark _)) (dss_cons (ds_set (i := 5) sc_Ldraw.nd rfl (by first | exact Or.inl rfl | exact Or.inr rfl) (de_bin od_mod (do_of (de_ix ixd_get (do_var (pv 0)) (do_of de_int) (fun _ _ => rfl))) (do_var (pv 1))))
    (dss_cons (ds_sub (pv 0) (de_bin od_div (do_of (de_ix ixd_get (do_var (pv 0)) (do_of de_int) (fun _ _ => rfl))) (do_var (pv 1))) (do_of de_int))
    (dss_one (ds_ret (de_var (pv 5)))))) dss_nil)
    (dss_cons (ds_set (i := 2) sc_Ldraw.nd rfl (by first | exact Or.inl rfl | exact Or.inr rfl) (de_ix ixd_get (do_var (pv 0)) (do_of de_int) (fun _ _ => rfl)))
    (dss_cons (ds_sub (pv 0) (de_bin od_add (do_var (pv 2)) (do_of de_int)) (do_of de_int))
    (dss_cons (ds_set (i := 3) sc_Ldraw.nd rfl (by first | exact Or.inl rfl | exact Or.inr rfl) de_int)
    (dss_cons (ds_if (db_cmp od_gt (do_of (de_cb cd_len (by rfl) z_len (by decide +kernel) (da_cons (do_of (de_ix ixd_get (do_var (pv 0)) (do_of de_int) (fun _ _ => rfl))) da_nil))) (do_of de_int) (nomark _)) (dss_one (ds_set (i := 3) sc_Ldraw.nd rfl (by first | exact Or.inl rfl | exact Or.inr rfl) (de_ix ixd_get (do_of (de_ix ixd_get (do_var (pv 0)) (do_of de_int) (fun _ _ => rfl))) (do_of (de_bin od_mod (do_var (pv 2)) (do_of (de_cb cd_len (by rfl) z_len (by decide +kernel) (da_cons (do_of (de_ix ixd_get (do_var (pv 0)) (do_of de_int) (fun _ _ => rfl))) da_nil))))) (fun _ _ => rfl)))) dss_nil)
    (dss_cons (ds_if (db_w (dw_and (db_cmp od_lt (do_var (pv 2)) (do_of (de_cb cd_len (by rfl) z_len (by decide +kernel) (da_cons (do_of (de_ix ixd_get (do_var (pv 0)) (do_of de_int) (fun _ _ => rfl))) da_nil))) (nomark _)) (dw_and1 (db_cmp od_ge (do_of (de_cb cd_abs (by rfl) z_abs (by decide +kernel) (da_cons (do_var (pv 3)) da_nil))) (do_of (de_bin od_pow (do_of de_int) (do_of de_int))) (nomark _))))) (dss_cons (ds_sub (pv 0) (de_bin od_div (do_of (de_cb cd_abs (by rfl) z_abs (by decide +kernel) (da_cons (do_var (pv 3)) da_nil))) (do_var (pv 1))) (do_of de_int))
    (dss_one (ds_ret (de_bin od_mod (do_of (de_cb cd_abs (by rfl) z_abs (by decide +kernel) (da_cons (do_var (pv 3)) da_nil))) (do_var (pv 1)))))) dss_nil)
    (dss_cons (ds_set (i := 4) sc_Ldraw.nd rfl (by first | exact Or.inl rfl | exact Or.inr rfl) (de_bin od_mod (do_of (de_bin od_mul (do_of (de_bin od_add (do_of (de_bin od_add (do_of (de_bin od_mod (do_var (pv 3)) (do_of de_int))) (do_of (de_bin od_mul (do_of de_int) (do_var (pv 2)))))) (do_of de_int))) (do_of de_int))) (do_of de_int)))
    (dss_cons (ds_set (i := 4) sc_Ldraw.nd rfl (by first | exact Or.inl rfl | exact Or.inr rfl) (de_bin od_mod (do_of (de_bin od_add (do_of (de_bin od_add (do_of (de_bin od_mul (do_var (pv 4)) (do_var (pv 4)))) (do_of (de_bin od_mul (do_of de_int) (do_var (pv 4)))))) (do_var (pv 2)))) (do_of de_int)))
    (dss_one (ds_ret (de_bin od_mod (do_of (de_bin od_div (do_of (de_bin od_mod (do_of (de_bin od_mul (do_var (pv 4)) (do_of de_int))) (do_of de_int))) (do_of de_int))) (do_var (pv 1)))))))))))))
theorem sc_Lweb : FnScope ["_law_pen_here", "_law_places", "_law_ties", "_law_many", "_law_way", "_law_count", "_law_found", "_law_k", "_law_a", "_law_b"] ["_law_pen_here", "_law_places", "_law_ties"] (defScope s_Lweb) := ⟨rfl, rfl, rfl, by decide +kernel, rfl, by decide +kernel, by decide +kernel⟩
set_option maxHeartbeats 4000000 in
theorem ok_Lweb {k : Nat} {f : Addr} {fd : FuncData} (F : Fun K "_law_web" "_law_web" s_Lweb f fd) {f_Ldraw : Addr} {fd_Ldraw : FuncData} (G_Ldraw : FnOk P w K mg base (L2N.CX P w) k f_Ldraw fd_Ldraw ["_law_pen_here", "_law_many"] (spD K mg sem_Ldraw_de5b 2)) (g_Ldraw : mg "_law_draw" = some (.ref f_Ldraw)) (k_Ldraw : PySem.W.keepIn K (.ref f_Ldraw) = true) (B_Ldraw : Binds K fd_Ldraw ["_law_pen_here", "_law_many"] []) (z_range : mg "range" = none) (z_min : mg "min" = none) (z_tuple : mg "tuple" = none) :
    FnOk P w K mg base (L2N.CX P w) (k + 1) f fd ["_law_pen_here", "_law_places", "_law_ties"] (spD K mg (defSem 3 10 b_Lweb_0350) 3) :=
  def_ok (N := ["_law_pen_here", "_law_places", "_law_ties", "_law_many", "_law_way", "_law_count", "_law_found", "_law_k", "_law_a", "_law_b"]) F sc_Lweb (by decide) fun cdv A outer s H E hr tk =>
    (dss_cons (ds_set (i := 3) sc_Lweb.nd rfl (by first | exact Or.inl rfl | exact Or.inr rfl) (de_bin od_add (do_of de_int) (do_of (de_call tk G_Ldraw hr (by rfl) g_Ldraw k_Ldraw B_Ldraw rfl (da_cons (do_var (pv 0)) (da_cons (do_var (pv 1)) da_nil))))))
    (dss_cons (ds_set (i := 4) sc_Lweb.nd rfl (by first | exact Or.inl rfl | exact Or.inr rfl) (de_call tk G_Ldraw hr (by rfl) g_Ldraw k_Ldraw B_Ldraw rfl (da_cons (do_var (pv 0)) (da_cons (do_of de_int) da_nil))))
    (dss_cons (ds_set (i := 5) sc_Lweb.nd rfl (by first | exact Or.inl rfl | exact Or.inr rfl) (de_call tk G_Ldraw hr (by rfl) g_Ldraw k_Ldraw B_Ldraw rfl (da_cons (do_var (pv 0)) (da_cons (do_of (de_bin od_add (do_var (pv 2)) (do_of de_int))) da_nil))))
    (dss_cons (ds_if (db_cmp (od_eq hr.units) (do_var (pv 4)) (do_of de_int) (nomark _)) (dss_cons (ds_set (i := 3) sc_Lweb.nd rfl (by first | exact Or.inl rfl | exact Or.inr rfl) (de_var (pv 1)))
    (dss_one (ds_set (i := 5) sc_Lweb.nd rfl (by first | exact Or.inl rfl | exact Or.inr rfl) (de_var (pv 2))))) dss_nil)
    (dss_cons (ds_set (i := 6) sc_Lweb.nd rfl (by first | exact Or.inl rfl | exact Or.inr rfl) (de_lst da_nil))
    (dss_cons (ds_for (passes_of rfl) rfl (di_rng1 (by rfl) z_range (do_var (pv 5))) (dg_name sc_Lweb.nd rfl (by first | exact Or.inl rfl | exact Or.inr rfl)) (dss_cons (ds_par (i := 8) (j := 9) rfl sc_Lweb.nd rfl rfl (by decide) rfl rfl (de_call tk G_Ldraw hr (by rfl) g_Ldraw k_Ldraw B_Ldraw rfl (da_cons (do_var (pv 0)) (da_cons (do_var (pv 3)) da_nil))) (de_call tk G_Ldraw hr (by rfl) g_Ldraw k_Ldraw B_Ldraw rfl (da_cons (do_var (pv 0)) (da_cons (do_var (pv 3)) da_nil))) (by rfl))
    (dss_cons (ds_if (db_cmp (od_eq hr.units) (do_var (pv 4)) (do_of de_int) (nomark _)) (dss_one (ds_par (i := 8) (j := 9) rfl sc_Lweb.nd rfl rfl (by decide) rfl rfl (de_bin od_mod (do_var (pv 7)) (do_var (pv 3))) (de_bin od_mod (do_of (de_bin od_add (do_var (pv 7)) (do_of de_int))) (do_var (pv 3))) (by rfl))) dss_nil)
    (dss_cons (ds_if (db_cmp (od_eq hr.units) (do_var (pv 4)) (do_of de_int) (nomark _)) (dss_one (ds_set (i := 8) sc_Lweb.nd rfl (by first | exact Or.inl rfl | exact Or.inr rfl) de_int)) dss_nil)
    (dss_cons (ds_if (db_cmp (od_eq hr.units) (do_var (pv 4)) (do_of de_int) (nomark _)) (dss_one (ds_set (i := 9) sc_Lweb.nd rfl (by first | exact Or.inl rfl | exact Or.inr rfl) (de_bin od_add (do_of (de_bin od_mod (do_var (pv 8)) (do_of de_int))) (do_of (de_bin od_mul (do_of (de_bin od_div (do_var (pv 9)) (do_of de_int))) (do_of de_int)))))) dss_nil)
    (dss_cons (ds_if (db_w (dw_and (db_cmp (od_eq hr.units) (do_var (pv 4)) (do_of de_int) (nomark _)) (dw_and1 (db_cmp (od_eq hr.units) (do_of (de_bin od_mod (do_var (pv 9)) (do_of de_int))) (do_of de_int) (nomark _))))) (dss_one (ds_set (i := 9) sc_Lweb.nd rfl (by first | exact Or.inl rfl | exact Or.inr rfl) (de_var (pv 8)))) dss_nil)
    (dss_one (ds_expr (de_mut PySem.F.plainAttrs_list PySem.F.slot_list_append PySem.F.type_list_append md_append (pv 6) (da_cons (do_of (de_tup (da_cons (do_of (de_var (pv 8))) (da_cons (do_of (de_cb (cd_min2 rfl) (by rfl) z_min (by decide +kernel) (da_cons (do_var (pv 9)) (da_cons (do_of (de_bin od_sub (do_var (pv 3)) (do_of de_int))) da_nil)))) da_nil)))) da_nil))))))))))
    (dss_one (ds_ret (de_tup (da_cons (do_of (de_var (pv 3))) (da_cons (do_of (de_ct cd_tuple (by rfl) z_tuple (by decide +kernel) (da_cons (do_var (pv 6)) da_nil))) da_nil)))))))))))
theorem sc_Lword : FnScope ["_law_e", "_law_some", "_law_found", "_law_word_here", "_law_one"] ["_law_e"] (defScope s_Lword) := ⟨rfl, rfl, rfl, by decide +kernel, rfl, by decide +kernel, by decide +kernel⟩
set_option maxHeartbeats 4000000 in
theorem okw_NoWeb {k : Nat} {f : Addr} {fd : FuncData} (F : Fun K "_law_word" "_law_word" s_Lword f fd) (z_isinstance : mg "isinstance" = none) (z_len : mg "len" = none) (z_ValueError : mg "ValueError" = none) {C_NoWeb : Addr} {C_Apart : Addr} {C_NoEnd : Addr} {C_NoName : Addr} {C_NoNumber : Addr} {C_NoOrder : Addr} {C_NoPaper : Addr} {C_NoPlace : Addr} {C_NoRing : Addr} {C_NoRow : Addr} {C_NoTable : Addr} {C_NoText : Addr} {C_NoTie : Addr} {C_TooGreat : Addr} {C_TooMany : Addr} (gx_Apart : mg "Apart" = some (.ref C_Apart)) (xc_NoWeb : ExcC K C_NoWeb) (kk_NoWeb_Apart : PySem.W.kitOne K (.ref C_NoWeb) (.ref C_Apart) = some false) (gx_NoEnd : mg "NoEnd" = some (.ref C_NoEnd)) (kk_NoWeb_NoEnd : PySem.W.kitOne K (.ref C_NoWeb) (.ref C_NoEnd) = some false) (gx_NoName : mg "NoName" = some (.ref C_NoName)) (kk_NoWeb_NoName : PySem.W.kitOne K (.ref C_NoWeb) (.ref C_NoName) = some false) (gx_NoNumber : mg "NoNumber" = some (.ref C_NoNumber)) (kk_NoWeb_NoNumber : PySem.W.kitOne K (.ref C_NoWeb) (.ref C_NoNumber) = some false) (gx_NoOrder : mg "NoOrder" = some (.ref C_NoOrder)) (kk_NoWeb_NoOrder : PySem.W.kitOne K (.ref C_NoWeb) (.ref C_NoOrder) = some false) (gx_NoPaper : mg "NoPaper" = some (.ref C_NoPaper)) (kk_NoWeb_NoPaper : PySem.W.kitOne K (.ref C_NoWeb) (.ref C_NoPaper) = some false) (gx_NoPlace : mg "NoPlace" = some (.ref C_NoPlace)) (kk_NoWeb_NoPlace : PySem.W.kitOne K (.ref C_NoWeb) (.ref C_NoPlace) = some false) (gx_NoRing : mg "NoRing" = some (.ref C_NoRing)) (kk_NoWeb_NoRing : PySem.W.kitOne K (.ref C_NoWeb) (.ref C_NoRing) = some false) (gx_NoRow : mg "NoRow" = some (.ref C_NoRow)) (kk_NoWeb_NoRow : PySem.W.kitOne K (.ref C_NoWeb) (.ref C_NoRow) = some false) (gx_NoTable : mg "NoTable" = some (.ref C_NoTable)) (kk_NoWeb_NoTable : PySem.W.kitOne K (.ref C_NoWeb) (.ref C_NoTable) = some false) (gx_NoText : mg "NoText" = some (.ref C_NoText)) (kk_NoWeb_NoText : PySem.W.kitOne K (.ref C_NoWeb) (.ref C_NoText) = some false) (gx_NoTie : mg "NoTie" = some (.ref C_NoTie)) (kk_NoWeb_NoTie : PySem.W.kitOne K (.ref C_NoWeb) (.ref C_NoTie) = some false) (gx_NoWeb : mg "NoWeb" = some (.ref C_NoWeb)) (kk_NoWeb_NoWeb : PySem.W.kitOne K (.ref C_NoWeb) (.ref C_NoWeb) = some true) (gx_TooGreat : mg "TooGreat" = some (.ref C_TooGreat)) (kk_NoWeb_TooGreat : PySem.W.kitOne K (.ref C_NoWeb) (.ref C_TooGreat) = some false) (gx_TooMany : mg "TooMany" = some (.ref C_TooMany)) (kk_NoWeb_TooMany : PySem.W.kitOne K (.ref C_NoWeb) (.ref C_TooMany) = some false) (kk_NoWeb_ValueError : PySem.W.kitOne K (.ref C_NoWeb) (.type "ValueError") = some true) :
    FnW P w K mg base (k + 1) f fd "_law_e" C_NoWeb sem_WNoWeb_1ef6 :=
  fnw_of (N := ["_law_e", "_law_some", "_law_found", "_law_word_here", "_law_one"]) (body := b_WNoWeb_1ef6) F sc_Lword (by decide) fun cdv A outer s H E p hot hr hz hf =>
    (show PSs _ _ (tX _ _ 0 p.1 b_WNoWeb_1ef6) from (dxx_set (j := 1) sc_Lword.nd rfl (by first | exact Or.inl rfl | exact Or.inr rfl) (dex_lst (dax_cons (dex_tup (dax_cons (dex_of de_str) (dax_cons (dex_isiY (List.mem_singleton.mpr rfl) xc_NoWeb hz hf (by rfl) z_isinstance (pv 0) (pe_glob (v := .ref C_Apart) (by rfl) gx_Apart rfl) (.own _) kk_NoWeb_Apart) dax_nil))) (dax_cons (dex_tup (dax_cons (dex_of de_str) (dax_cons (dex_isiY (List.mem_singleton.mpr rfl) xc_NoWeb hz hf (by rfl) z_isinstance (pv 0) (pe_glob (v := .ref C_NoEnd) (by rfl) gx_NoEnd rfl) (.own _) kk_NoWeb_NoEnd) dax_nil))) (dax_cons (dex_tup (dax_cons (dex_of de_str) (dax_cons (dex_isiY (List.mem_singleton.mpr rfl) xc_NoWeb hz hf (by rfl) z_isinstance (pv 0) (pe_glob (v := .ref C_NoName) (by rfl) gx_NoName rfl) (.own _) kk_NoWeb_NoName) dax_nil))) dax_nil)))) (dxx_set (j := 1) sc_Lword.nd rfl (by first | exact Or.inl rfl | exact Or.inr rfl) (dex_bin od_add (do_var (pv 1)) (dex_lst (dax_cons (dex_tup (dax_cons (dex_of de_str) (dax_cons (dex_isiY (List.mem_singleton.mpr rfl) xc_NoWeb hz hf (by rfl) z_isinstance (pv 0) (pe_glob (v := .ref C_NoNumber) (by rfl) gx_NoNumber rfl) (.own _) kk_NoWeb_NoNumber) dax_nil))) (dax_cons (dex_tup (dax_cons (dex_of de_str) (dax_cons (dex_isiY (List.mem_singleton.mpr rfl) xc_NoWeb hz hf (by rfl) z_isinstance (pv 0) (pe_glob (v := .ref C_NoOrder) (by rfl) gx_NoOrder rfl) (.own _) kk_NoWeb_NoOrder) dax_nil))) dax_nil)))) (dxx_set (j := 1) sc_Lword.nd rfl (by first | exact Or.inl rfl | exact Or.inr rfl) (dex_bin od_add (do_var (pv 1)) (dex_lst (dax_cons (dex_tup (dax_cons (dex_of de_str) (dax_cons (dex_isiY (List.mem_singleton.mpr rfl) xc_NoWeb hz hf (by rfl) z_isinstance (pv 0) (pe_glob (v := .ref C_NoPaper) (by rfl) gx_NoPaper rfl) (.own _) kk_NoWeb_NoPaper) dax_nil))) (dax_cons (dex_tup (dax_cons (dex_of de_str) (dax_cons (dex_isiY (List.mem_singleton.mpr rfl) xc_NoWeb hz hf (by rfl) z_isinstance (pv 0) (pe_glob (v := .ref C_NoPlace) (by rfl) gx_NoPlace rfl) (.own _) kk_NoWeb_NoPlace) dax_nil))) dax_nil)))) (dxx_set (j := 1) sc_Lword.nd rfl (by first | exact Or.inl rfl | exact Or.inr rfl) (dex_bin od_add (do_var (pv 1)) (dex_lst (dax_cons (dex_tup (dax_cons (dex_of de_str) (dax_cons (dex_isiY (List.mem_singleton.mpr rfl) xc_NoWeb hz hf (by rfl) z_isinstance (pv 0) (pe_glob (v := .ref C_NoRing) (by rfl) gx_NoRing rfl) (.own _) kk_NoWeb_NoRing) dax_nil))) (dax_cons (dex_tup (dax_cons (dex_of de_str) (dax_cons (dex_isiY (List.mem_singleton.mpr rfl) xc_NoWeb hz hf (by rfl) z_isinstance (pv 0) (pe_glob (v := .ref C_NoRow) (by rfl) gx_NoRow rfl) (.own _) kk_NoWeb_NoRow) dax_nil))) (dax_cons (dex_tup (dax_cons (dex_of de_str) (dax_cons (dex_isiY (List.mem_singleton.mpr rfl) xc_NoWeb hz hf (by rfl) z_isinstance (pv 0) (pe_glob (v := .ref C_NoTable) (by rfl) gx_NoTable rfl) (.own _) kk_NoWeb_NoTable) dax_nil))) dax_nil))))) (dxx_set (j := 1) sc_Lword.nd rfl (by first | exact Or.inl rfl | exact Or.inr rfl) (dex_bin od_add (do_var (pv 1)) (dex_lst (dax_cons (dex_tup (dax_cons (dex_of de_str) (dax_cons (dex_isiY (List.mem_singleton.mpr rfl) xc_NoWeb hz hf (by rfl) z_isinstance (pv 0) (pe_glob (v := .ref C_NoText) (by rfl) gx_NoText rfl) (.own _) kk_NoWeb_NoText) dax_nil))) (dax_cons (dex_tup (dax_cons (dex_of de_str) (dax_cons (dex_isiY (List.mem_singleton.mpr rfl) xc_NoWeb hz hf (by rfl) z_isinstance (pv 0) (pe_glob (v := .ref C_NoTie) (by rfl) gx_NoTie rfl) (.own _) kk_NoWeb_NoTie) dax_nil))) (dax_cons (dex_tup (dax_cons (dex_of de_str) (dax_cons (dex_isiY (List.mem_singleton.mpr rfl) xc_NoWeb hz hf (by rfl) z_isinstance (pv 0) (pe_glob (v := .ref C_NoWeb) (by rfl) gx_NoWeb rfl) (.own _) kk_NoWeb_NoWeb) dax_nil))) dax_nil))))) (dxx_set (j := 1) sc_Lword.nd rfl (by first | exact Or.inl rfl | exact Or.inr rfl) (dex_bin od_add (do_var (pv 1)) (dex_lst (dax_cons (dex_tup (dax_cons (dex_of de_str) (dax_cons (dex_isiY (List.mem_singleton.mpr rfl) xc_NoWeb hz hf (by rfl) z_isinstance (pv 0) (pe_glob (v := .ref C_TooGreat) (by rfl) gx_TooGreat rfl) (.own _) kk_NoWeb_TooGreat) dax_nil))) (dax_cons (dex_tup (dax_cons (dex_of de_str) (dax_cons (dex_isiY (List.mem_singleton.mpr rfl) xc_NoWeb hz hf (by rfl) z_isinstance (pv 0) (pe_glob (v := .ref C_TooMany) (by rfl) gx_TooMany rfl) (.own _) kk_NoWeb_TooMany) dax_nil))) dax_nil)))) (dxx_setLcK (lo := false) (i := 0) (j := 2) (own := [("_law_word_here", 3), ("_law_one", 4)]) (hot_word hot) sc_Lword.nd rfl rfl (sw_true rfl rfl rfl (by decide +kernel)) (dik_list (de_var (pv 1))) (blkOk_by (own := [("_law_word_here", 3), ("_law_one", 4)]) (by first | rfl | decide +kernel)) (fun _ _ _ _ _ hin => (dg_tupH hin (dgs_cons (dg_name sc_Lword.nd rfl (by first | exact Or.inl rfl | exact Or.inr rfl)) (dgs_cons (dg_name sc_Lword.nd rfl (by first | exact Or.inl rfl | exact Or.inr rfl)) dgs_nil)))) (fun _ _ _ _ _ => (dts_one (db_val (de_var (pv 4))))) (fun _ _ _ _ _ => (de_var (pv 3))) (by decide) (dxx_ifRet (dbx_w (dwx_and (dbx_of (db_cmp (od_eq (units_H hr)) (do_of (de_cb cd_len (by rfl) z_len (by decide +kernel) (da_cons (do_var (pv 2)) da_nil))) (do_of de_int) (nomark _))) (dwx_and1 (dbx_val (dex_isiY (List.mem_singleton.mpr rfl) xc_NoWeb hz hf (by rfl) z_isinstance (pv 0) (pe_bltn (v := .ty "ValueError") (by rfl) z_ValueError (by rfl) rfl) (.ty _) kk_NoWeb_ValueError))))) (de_ix ixd_get (do_var (pv 2)) (do_of de_int) (fun _ _ => rfl)) (dxx_of (dss_one (ds_ret de_str))))))))))))
theorem sw_NoWeb : sem_WNoWeb_1ef6 [] = some (.ok (.val (.str (Str.ofString "web"))), []) := by rfl
theorem sc_Ltold : FnScope ["_law_asked", "_law_found", "_law_e"] ["_law_asked"] (defScope s_Ltold) := ⟨rfl, rfl, rfl, by decide +kernel, rfl, by decide +kernel, by decide +kernel⟩
theorem sc_Lsame : FnScope ["_law_found", "_law_due", "_law_one", "_law_other"] ["_law_found", "_law_due"] (defScope s_Lsame) := ⟨rfl, rfl, rfl, by decide +kernel, rfl, by decide +kernel, by decide +kernel⟩
set_option maxHeartbeats 4000000 in
theorem ok_Lsame {k : Nat} {f : Addr} {fd : FuncData} {cs : Sem} (F : Fun K "_law_same" "_law_same" s_Lsame f fd) (G_Lsame : FnOk P w K mg base (L2N.CX P w) k f fd ["_law_found", "_law_due"] (spD K mg cs 2)) (g_Lsame : mg "_law_same" = some (.ref f)) (k_Lsame : PySem.W.keepIn K (.ref f) = true) (B_Lsame : Binds K fd ["_law_found", "_law_due"] []) (z_isinstance : mg "isinstance" = none) (z_list : mg "list" = none) (z_tuple : mg "tuple" = none) (z_len : mg "len" = none) (z_zip : mg "zip" = none) (z_all : mg "all" = none) (z_bool : mg "bool" = none) (z_str : mg "str" = none) (z_int : mg "int" = none) :
    FnOk P w K mg base (L2N.CX P w) (k + 1) f fd ["_law_found", "_law_due"] (spD K mg (defSem 2 4 (b_Lsame_1a4f cs)) 2) :=
  def_ok (N := ["_law_found", "_law_due", "_law_one", "_law_other"]) F sc_Lsame (by decide) fun cdv A outer s H E hr tk =>
    (dss_cons (ds_if (db_val (de_isi2 (t := .list) (t2 := .tuple) (by rfl) z_isinstance (by rfl) z_list (by rfl) z_tuple (do_var (pv 1)) (by decide +kernel) (by decide +kernel))) (dss_cons (ds_if (db_w (dw_or (db_not (db_val (de_isi2 (t := .list) (t2 := .tuple) (by rfl) z_isinstance (by rfl) z_list (by rfl) z_tuple (do_var (pv 0)) (by decide +kernel) (by decide +kernel)))) (dw_or1 (db_cmp (od_ne hr.units) (do_of (de_isi (t := .list) (by rfl) z_isinstance (by rfl) z_list (do_var (pv 0)) (by decide +kernel))) (do_of (de_isi (t := .list) (by rfl) z_isinstance (by rfl) z_list (do_var (pv 1)) (by decide +kernel))) (nomark _))))) (dss_one (ds_ret de_bl)) dss_nil)
    (dss_cons (ds_if (db_cmp (od_ne hr.units) (do_of (de_cb cd_len (by rfl) z_len (by decide +kernel) (da_cons (do_var (pv 0)) da_nil))) (do_of (de_cb cd_len (by rfl) z_len (by decide +kernel) (da_cons (do_var (pv 1)) da_nil))) (nomark _)) (dss_one (ds_ret de_bl)) dss_nil)
    (dss_one (ds_ret (de_cb (cd_all rfl) (by rfl) z_all (by decide +kernel) (da_cons (do_of (de_lc (own := [("_law_one", 2), ("_law_other", 3)]) rfl sc_Lsame.nd (di_zip (by rfl) z_zip (do_of (de_var (pv 0))) (do_of (de_var (pv 1)))) (blkOk_by (own := [("_law_one", 2), ("_law_other", 3)]) (by first | rfl | decide +kernel)) (fun _ _ _ _ _ => (dg_tup rfl (dgs_cons (dg_name sc_Lsame.nd rfl (by first | exact Or.inl rfl | exact Or.inr rfl)) (dgs_cons (dg_name sc_Lsame.nd rfl (by first | exact Or.inl rfl | exact Or.inr rfl)) dgs_nil)))) (fun _ _ _ _ _ => dts_nil) (fun _ _ _ _ _ => (de_peek takesN0 G_Lsame hr (by rfl) g_Lsame k_Lsame B_Lsame rfl (da_cons (do_var (pv 2)) (da_cons (do_var (pv 3)) da_nil)))) (by decide))) da_nil)))))) dss_nil)
    (dss_cons (ds_if (db_w (dw_or (db_cmp (od_ne hr.units) (do_of (de_isi (t := .bool) (by rfl) z_isinstance (by rfl) z_bool (do_var (pv 0)) (by decide +kernel))) (do_of (de_isi (t := .bool) (by rfl) z_isinstance (by rfl) z_bool (do_var (pv 1)) (by decide +kernel))) (nomark _)) (dw_or1 (db_cmp (od_ne hr.units) (do_of (de_isi (t := .str) (by rfl) z_isinstance (by rfl) z_str (do_var (pv 0)) (by decide +kernel))) (do_of (de_isi (t := .str) (by rfl) z_isinstance (by rfl) z_str (do_var (pv 1)) (by decide +kernel))) (nomark _))))) (dss_one (ds_ret de_bl)) dss_nil)
    (dss_one (ds_ret (de_and (de_cmp (od_eq hr.units) (do_of (de_isi (t := .int) (by rfl) z_isinstance (by rfl) z_int (do_var (pv 0)) (by decide +kernel))) (do_of (de_isi (t := .int) (by rfl) z_isinstance (by rfl) z_int (do_var (pv 1)) (by decide +kernel))) (nomark _)) (de_one (de_cmp (od_eq hr.units) (do_var (pv 0)) (do_var (pv 1)) (nomark _))))))))
theorem oks_Lsame {k : Nat} {f : Addr} {fd : FuncData} (F : Fun K "_law_same" "_law_same" s_Lsame f fd) (g_Lsame : mg "_law_same" = some (.ref f)) (B_Lsame : Binds K fd ["_law_found", "_law_due"] []) (z_isinstance : mg "isinstance" = none) (z_list : mg "list" = none) (z_tuple : mg "tuple" = none) (z_len : mg "len" = none) (z_zip : mg "zip" = none) (z_all : mg "all" = none) (z_bool : mg "bool" = none) (z_str : mg "str" = none) (z_int : mg "int" = none) : ∀ j, FnOk P w K mg base (L2N.CX P w) (k + j) f fd ["_law_found", "_law_due"] (spD K mg (sem_Lsame_1a4f j) 2)
  | 0 => fn_none
  | j + 1 => by
    have ih := oks_Lsame (k := k) F g_Lsame B_Lsame z_isinstance z_list z_tuple z_len z_zip z_all z_bool z_str z_int j
    exact ok_Lsame F ih g_Lsame F.kp B_Lsame z_isinstance z_list z_tuple z_len z_zip z_all z_bool z_str z_int
theorem sc_Lhanded : FnScope ["_law_pen_here", "_law_web_here", "_law_ties", "_law_tie"] ["_law_pen_here", "_law_web_here"] (defScope s_Lhanded) := ⟨rfl, rfl, rfl, by decide +kernel, rfl, by decide +kernel, by decide +kernel⟩
set_option maxHeartbeats 4000000 in
theorem ok_Lhanded {k : Nat} {f : Addr} {fd : FuncData} (F : Fun K "_law_handed" "_law_handed" s_Lhanded f fd) {f_Ldraw : Addr} {fd_Ldraw : FuncData} (G_Ldraw : FnOk P w K mg base (L2N.CX P w) k f_Ldraw fd_Ldraw ["_law_pen_here", "_law_many"] (spD K mg sem_Ldraw_de5b 2)) (g_Ldraw : mg "_law_draw" = some (.ref f_Ldraw)) (k_Ldraw : PySem.W.keepIn K (.ref f_Ldraw) = true) (B_Ldraw : Binds K fd_Ldraw ["_law_pen_here", "_law_many"] []) (z_list : mg "list" = none) (z_tuple : mg "tuple" = none) :
    FnOk P w K mg base (L2N.CX P w) (k + 1) f fd ["_law_pen_here", "_law_web_here"] (spD K mg (defSem 2 4 b_Lhanded_ab27) 2) :=
  def_ok (N := ["_law_pen_here", "_law_web_here", "_law_ties", "_law_tie"]) F sc_Lhanded (by decide) fun cdv A outer s H E hr tk =>
    (dss_cons (ds_setLc (i := 2) (own := [("_law_tie", 3)]) rfl sc_Lhanded.nd rfl rfl (sw_true rfl rfl rfl (by decide +kernel)) (di_seq (lo := false) (de_ix ixd_get (do_var (pv 1)) (do_of de_int) (fun _ _ => rfl))) (blkOk_by (own := [("_law_tie", 3)]) (by first | rfl | decide +kernel)) (fun _ _ _ _ _ => (dg_name sc_Lhanded.nd rfl (by first | exact Or.inl rfl | exact Or.inr rfl))) (fun _ _ _ _ _ => dts_nil) (fun _ _ _ _ _ => (de_ix ixd_get (do_of (de_lst (da_cons (do_of (de_ct cd_list (by rfl) z_list (by decide +kernel) (da_cons (do_var (pv 3)) da_nil))) (da_cons (do_of (de_var (pv 3))) da_nil)))) (do_of (de_call takesN0 G_Ldraw hr (by rfl) g_Ldraw k_Ldraw B_Ldraw rfl (da_cons (do_var (pv 0)) (da_cons (do_of de_int) da_nil)))) (fun _ _ => rfl))) (by decide))
    (dss_one (ds_ret (de_ix ixd_get (do_of (de_lst (da_cons (do_of (de_var (pv 2))) (da_cons (do_of (de_ct cd_tuple (by rfl) z_tuple (by decide +kernel) (da_cons (do_var (pv 2)) da_nil))) da_nil)))) (do_of (de_call tk G_Ldraw hr (by rfl) g_Ldraw k_Ldraw B_Ldraw rfl (da_cons (do_var (pv 0)) (da_cons (do_of de_int) da_nil)))) (fun _ _ => rfl)))))
theorem sc_Lspoiled : FnScope ["_law_pen_here", "_law_web_here", "_law_far", "_law_way", "_law_numbers", "_law_rows", "_law_single", "_law_places", "_law_at", "_law_tie", "_law_found", "_law_many", "_law_ties"] ["_law_pen_here", "_law_web_here"] (defScope s_Lspoiled) := ⟨rfl, rfl, rfl, by decide +kernel, rfl, by decide +kernel, by decide +kernel⟩
set_option maxHeartbeats 4000000 in
theorem ok_Lspoiled {k : Nat} {f : Addr} {fd : FuncData} (F : Fun K "_law_spoiled" "_law_spoiled" s_Lspoiled f fd) {f_Ldraw : Addr} {fd_Ldraw : FuncData} (G_Ldraw : FnOk P w K mg base (L2N.CX P w) k f_Ldraw fd_Ldraw ["_law_pen_here", "_law_many"] (spD K mg sem_Ldraw_de5b 2)) (g_Ldraw : mg "_law_draw" = some (.ref f_Ldraw)) (k_Ldraw : PySem.W.keepIn K (.ref f_Ldraw) = true) (B_Ldraw : Binds K fd_Ldraw ["_law_pen_here", "_law_many"] []) {f_Lhanded : Addr} {fd_Lhanded : FuncData} (G_Lhanded : FnOk P w K mg base (L2N.CX P w) k f_Lhanded fd_Lhanded ["_law_pen_here", "_law_web_here"] (spD K mg sem_Lhanded_ab27 2)) (g_Lhanded : mg "_law_handed" = some (.ref f_Lhanded)) (k_Lhanded : PySem.W.keepIn K (.ref f_Lhanded) = true) (B_Lhanded : Binds K fd_Lhanded ["_law_pen_here", "_law_web_here"] []) (z_str : mg "str" = none) (z_list : mg "list" = none) (z_len : mg "len" = none) (z_tuple : mg "tuple" = none) :
    FnOkG P w K mg base (k + 1) f fd ["_law_pen_here", "_law_web_here"] (spD K mg (defSem 2 13 b_Lspoiled_a8cc) 2) :=
  defG_ok (N := ["_law_pen_here", "_law_web_here", "_law_far", "_law_way", "_law_numbers", "_law_rows", "_law_single", "_law_places", "_law_at", "_law_tie", "_law_found", "_law_many", "_law_ties"]) F sc_Lspoiled (by decide) fun cdv A outer s H E hr hG tk =>
    (dss_cons (ds_unp (de_var (pv 1)) (dg_tup rfl (dgs_cons (dg_name sc_Lspoiled.nd rfl (by first | exact Or.inl rfl | exact Or.inr rfl)) (dgs_cons (dg_name sc_Lspoiled.nd rfl (by first | exact Or.inl rfl | exact Or.inr rfl)) dgs_nil))) (setT_nx (by simp only [List.forall_mem_cons, List.not_mem_nil, false_imp_iff, implies_true, and_true]; exact ⟨setN_nx _, setN_nx _⟩)))
    (dss_cons (ds_set (i := 2) sc_Lspoiled.nd rfl (by first | exact Or.inl rfl | exact Or.inr rfl) (de_call tk G_Ldraw hr (by rfl) g_Ldraw k_Ldraw B_Ldraw rfl (da_cons (do_var (pv 0)) (da_cons (do_of (de_bin od_pow (do_of de_int) (do_of de_int))) da_nil))))
    (dss_cons (ds_set (i := 3) sc_Lspoiled.nd rfl (by first | exact Or.inl rfl | exact Or.inr rfl) (de_call tk G_Ldraw hr (by rfl) g_Ldraw k_Ldraw B_Ldraw rfl (da_cons (do_var (pv 0)) (da_cons (do_of de_int) da_nil))))
    (dss_cons (ds_set (i := 4) sc_Lspoiled.nd rfl (by first | exact Or.inl rfl | exact Or.inr rfl) (de_lst (da_cons (do_of de_int) (da_cons (do_of de_int) (da_cons (do_of (de_bin od_sub (do_of de_int) (do_of de_int))) (da_cons (do_of (de_bin od_add (do_of de_int) (do_var (pv 2)))) (da_cons (do_of (de_bin od_sub (do_of de_int) (do_var (pv 11)))) (da_cons (do_of (de_bin od_sub (do_of de_int) (do_var (pv 2)))) (da_cons (do_of de_bl) (da_cons (do_of de_bl) (da_cons (do_of de_non) (da_cons (do_of (de_ct cd_strI (by rfl) z_str (by decide +kernel) (da_cons (do_var (pv 11)) da_nil))) (da_cons (do_of (de_lst (da_cons (do_of (de_var (pv 11))) da_nil))) (da_cons (do_of (de_tup (da_cons (do_of (de_var (pv 11))) da_nil))) (da_cons (do_of de_e0) (da_cons (do_of (de_bin od_pow (do_of de_int) (do_of de_int))) da_nil))))))))))))))))
    (dss_cons (ds_set (i := 5) sc_Lspoiled.nd rfl (by first | exact Or.inl rfl | exact Or.inr rfl) (de_lst (da_cons (do_of de_non) (da_cons (do_of de_bl) (da_cons (do_of de_int) (da_cons (do_of de_str) (da_cons (do_of de_str) (da_cons (do_of de_e0) (da_cons (do_of (de_fzK (de_disp1 (do_of de_int) (de_tup (da_cons (do_of de_int) (da_cons (do_of de_int) da_nil)))))) (da_cons (do_of (de_bin od_add (do_of (de_ct cd_list (by rfl) z_list (by decide +kernel) (da_cons (do_var (pv 12)) da_nil))) (do_of (de_bin od_mul (do_of (de_lst (da_cons (do_of (de_tup (da_cons (do_of de_int) (da_cons (do_of de_int) da_nil)))) da_nil))) (do_of (de_bin od_sub (do_of de_int) (do_of (de_cb cd_len (by rfl) z_len (by decide +kernel) (da_cons (do_var (pv 12)) da_nil))))))))) (da_cons (do_of (de_lst (da_cons (do_of de_int) (da_cons (do_of de_int) da_nil)))) (da_cons (do_of (de_tup (da_cons (do_of (de_tup (da_cons (do_of de_int) (da_cons (do_of de_int) da_nil)))) (da_cons (do_of de_int) da_nil)))) da_nil))))))))))))
    (dss_cons (ds_set (i := 5) sc_Lspoiled.nd rfl (by first | exact Or.inl rfl | exact Or.inr rfl) (de_bin od_add (do_var (pv 5)) (do_of (de_lst (da_cons (do_of (de_bin od_add (do_of (de_ct cd_list (by rfl) z_list (by decide +kernel) (da_cons (do_var (pv 12)) da_nil))) (do_of (de_bin od_mul (do_of (de_lst (da_cons (do_of (de_tup (da_cons (do_of (de_bin od_sub (do_var (pv 11)) (do_of de_int))) (da_cons (do_of de_int) da_nil)))) da_nil))) (do_of de_int))))) (da_cons (do_of (de_tup (da_cons (do_of (de_lst da_nil)) da_nil))) (da_cons (do_of (de_tup (da_cons (do_of de_non) da_nil))) da_nil)))))))
    (dss_cons (ds_set (i := 6) sc_Lspoiled.nd rfl (by first | exact Or.inl rfl | exact Or.inr rfl) (de_lst (da_cons (do_of de_non) (da_cons (do_of de_int) (da_cons (do_of (de_tup (da_cons (do_of de_int) da_nil))) (da_cons (do_of (de_tup (da_cons (do_of de_int) (da_cons (do_of de_int) (da_cons (do_of de_int) da_nil))))) (da_cons (do_of (de_lst da_nil)) (da_cons (do_of de_str) (da_cons (do_of de_e0) (da_cons (do_of de_bl) (da_cons (do_of (de_tup (da_cons (do_of (de_tup (da_cons (do_of de_int) (da_cons (do_of de_int) da_nil)))) da_nil))) (da_cons (do_of (de_dik2 L2.pe_int L2.pe_int L2.pe_int L2.pe_int (by decide))) (da_cons (do_of (de_tup (da_cons (do_of de_int) (da_cons (do_of (de_tup (da_cons (do_of de_int) da_nil))) da_nil)))) (da_cons (do_of (de_lst (da_cons (do_of (de_lst (da_cons (do_of de_int) (da_cons (do_of de_int) da_nil)))) da_nil))) da_nil))))))))))))))
    (dss_cons (ds_set (i := 7) sc_Lspoiled.nd rfl (by first | exact Or.inl rfl | exact Or.inr rfl) (de_lst (da_cons (do_of (de_var (pv 11))) (da_cons (do_of (de_bin od_sub (do_of de_int) (do_of de_int))) (da_cons (do_of (de_bin od_add (do_var (pv 11)) (do_var (pv 2)))) (da_cons (do_of (de_bin od_sub (do_of (de_bin od_sub (do_of de_int) (do_of de_int))) (do_var (pv 2)))) (da_cons (do_of de_bl) (da_cons (do_of de_bl) (da_cons (do_of de_non) (da_cons (do_of de_str) (da_cons (do_of (de_lst (da_cons (do_of de_int) da_nil))) (da_cons (do_of (de_tup (da_cons (do_of de_int) da_nil))) (da_cons (do_of de_e0) (da_cons (do_of (de_bin od_add (do_var (pv 11)) (do_of de_int))) da_nil))))))))))))))
    (dss_cons (ds_if (db_cmp (od_eq hr.units) (do_var (pv 3)) (do_of de_int) (nomark _)) (dss_one (ds_ret (de_tup (da_cons (do_of (de_ix ixd_get (do_var (pv 4)) (do_of (de_call tk G_Ldraw hr (by rfl) g_Ldraw k_Ldraw B_Ldraw rfl (da_cons (do_var (pv 0)) (da_cons (do_of de_int) da_nil)))) (fun _ _ => rfl))) (da_cons (do_of (de_call tk G_Lhanded hr (by rfl) g_Lhanded k_Lhanded B_Lhanded rfl (da_cons (do_var (pv 0)) (da_cons (do_var (pv 1)) da_nil)))) da_nil))))) dss_nil)
    (dss_cons (ds_if (db_w (dw_or (db_cmp (od_eq hr.units) (do_var (pv 3)) (do_of de_int) (nomark _)) (dw_or1 (db_cmp (od_eq hr.units) (do_var (pv 12)) (do_of (de_tup da_nil)) (nomark _))))) (dss_one (ds_ret (de_tup (da_cons (do_of (de_ix ixd_get (do_of (de_lst (da_cons (do_of (de_var (pv 11))) (da_cons (do_of (de_ix ixd_get (do_var (pv 4)) (do_of (de_call tk G_Ldraw hr (by rfl) g_Ldraw k_Ldraw B_Ldraw rfl (da_cons (do_var (pv 0)) (da_cons (do_of de_int) da_nil)))) (fun _ _ => rfl))) da_nil)))) (do_of (de_call tk G_Ldraw hr (by rfl) g_Ldraw k_Ldraw B_Ldraw rfl (da_cons (do_var (pv 0)) (da_cons (do_of de_int) da_nil)))) (fun _ _ => rfl))) (da_cons (do_of (de_ix ixd_get (do_var (pv 5)) (do_of (de_call tk G_Ldraw hr (by rfl) g_Ldraw k_Ldraw B_Ldraw rfl (da_cons (do_var (pv 0)) (da_cons (do_of de_int) da_nil)))) (fun _ _ => rfl))) da_nil))))) dss_nil)
    (dss_cons (ds_set (i := 8) sc_Lspoiled.nd rfl (by first | exact Or.inl rfl | exact Or.inr rfl) (de_call tk G_Ldraw hr (by rfl) g_Ldraw k_Ldraw B_Ldraw rfl (da_cons (do_var (pv 0)) (da_cons (do_of (de_cb cd_len (by rfl) z_len (by decide +kernel) (da_cons (do_var (pv 12)) da_nil))) da_nil))))
    (dss_cons (ds_set (i := 9) sc_Lspoiled.nd rfl (by first | exact Or.inl rfl | exact Or.inr rfl) (de_ix ixd_get (do_var (pv 6)) (do_of (de_call tk G_Ldraw hr (by rfl) g_Ldraw k_Ldraw B_Ldraw rfl (da_cons (do_var (pv 0)) (da_cons (do_of de_int) da_nil)))) (fun _ _ => rfl)))
    (dss_cons (ds_if (db_cmp od_gt (do_var (pv 3)) (do_of de_int) (nomark _)) (dss_cons (ds_set (i := 9) sc_Lspoiled.nd rfl (by first | exact Or.inl rfl | exact Or.inr rfl) (de_ct cd_list (by rfl) z_list (by decide +kernel) (da_cons (do_of (de_ix ixd_get (do_var (pv 12)) (do_var (pv 8)) (fun _ _ => rfl))) da_nil)))
    (dss_cons (ds_sub (pv 9) (de_ix ixd_get (do_var (pv 7)) (do_of (de_call tk G_Ldraw hr (by rfl) g_Ldraw k_Ldraw B_Ldraw rfl (da_cons (do_var (pv 0)) (da_cons (do_of de_int) da_nil)))) (fun _ _ => rfl)) (do_of (de_call tk G_Ldraw hr (by rfl) g_Ldraw k_Ldraw B_Ldraw rfl (da_cons (do_var (pv 0)) (da_cons (do_of de_int) da_nil)))))
    (dss_one (ds_set (i := 9) sc_Lspoiled.nd rfl (by first | exact Or.inl rfl | exact Or.inr rfl) (de_ix ixd_get (do_of (de_lst (da_cons (do_of (de_var (pv 9))) (da_cons (do_of (de_ct cd_tuple (by rfl) z_tuple (by decide +kernel) (da_cons (do_var (pv 9)) da_nil))) da_nil)))) (do_of (de_call tk G_Ldraw hr (by rfl) g_Ldraw k_Ldraw B_Ldraw rfl (da_cons (do_var (pv 0)) (da_cons (do_of de_int) da_nil)))) (fun _ _ => rfl)))))) dss_nil)
    (dss_cons (ds_set (i := 10) sc_Lspoiled.nd rfl (by first | exact Or.inl rfl | exact Or.inr rfl) (de_ct cd_list (by rfl) z_list (by decide +kernel) (da_cons (do_of (de_call tk G_Lhanded hr (by rfl) g_Lhanded k_Lhanded B_Lhanded rfl (da_cons (do_var (pv 0)) (da_cons (do_var (pv 1)) da_nil)))) da_nil)))
    (dss_cons (ds_sub (pv 10) (de_var (pv 9)) (do_var (pv 8)))
    (dss_one (ds_ret (de_tup (da_cons (do_of (de_var (pv 11))) (da_cons (do_of (de_ix ixd_get (do_of (de_lst (da_cons (do_of (de_var (pv 10))) (da_cons (do_of (de_ct cd_tuple (by rfl) z_tuple (by decide +kernel) (da_cons (do_var (pv 10)) da_nil))) da_nil)))) (do_of (de_call tk G_Ldraw hr (by rfl) g_Ldraw k_Ldraw B_Ldraw rfl (da_cons (do_var (pv 0)) (da_cons (do_of de_int) da_nil)))) (fun _ _ => rfl))) da_nil))))))))))))))))))))
theorem sc_law : FnScope ["_law_script", "_law_pen_here", "_law_web_here", "_law_handed_here", "_law_kept", "_law_found", "_law_k", "_law_again", "_law_tie", "_law_many", "_law_ties", "#tab"] ["_law_script"] (defScope s_law) := ⟨rfl, rfl, rfl, by decide +kernel, rfl, by decide +kernel, by decide +kernel⟩
set_option maxHeartbeats 4000000 in
theorem ok_law {k : Nat} {A0 : Around} (hA : Room (k + 3) A0) (hAG : A0.guards = some []) {f c Pt : Addr} {oc kV dc pm ct : Value} {od an : Option Addr} {sl : Array (Option Value)} (lk : K.lookup f = some ⟨oc, od, .func (PySem.W.fnOf "law" "law" (defArgs s_law) (defBody s_law) (defScope s_law) .none kV dc pm an (.ref c) ct), sl⟩) (hcd : PySem.W.codeIn K (.ref c) "law" = true) (TBt : LamX.TabB base mg c Pt) {f_Lpen : Addr} {fd_Lpen : FuncData} (G_Lpen : FnOk P w K mg base (L2N.CX P w) k f_Lpen fd_Lpen ["_law_script"] (spD K mg sem_Lpen_3d2f 1)) (g_Lpen : mg "_law_pen" = some (.ref f_Lpen)) (k_Lpen : PySem.W.keepIn K (.ref f_Lpen) = true) (B_Lpen : Binds K fd_Lpen ["_law_script"] []) {f_Lweb : Addr} {fd_Lweb : FuncData} (G_Lweb : FnOk P w K mg base (L2N.CX P w) k f_Lweb fd_Lweb ["_law_pen_here", "_law_places", "_law_ties"] (spD K mg sem_Lweb_0350 3)) (g_Lweb : mg "_law_web" = some (.ref f_Lweb)) (k_Lweb : PySem.W.keepIn K (.ref f_Lweb) = true) (B_Lweb : Binds K fd_Lweb ["_law_pen_here", "_law_places", "_law_ties"] []) {f_Lhanded : Addr} {fd_Lhanded : FuncData} (G_Lhanded : FnOk P w K mg base (L2N.CX P w) k f_Lhanded fd_Lhanded ["_law_pen_here", "_law_web_here"] (spD K mg sem_Lhanded_ab27 2)) (g_Lhanded : mg "_law_handed" = some (.ref f_Lhanded)) (k_Lhanded : PySem.W.keepIn K (.ref f_Lhanded) = true) (B_Lhanded : Binds K fd_Lhanded ["_law_pen_here", "_law_web_here"] []) {f_web_of : Addr} {fd_web_of : FuncData} (G_web_of : FnOk P w K mg base (L2N.CX P w) k f_web_of fd_web_of ["many", "ties"] (spD K mg sem_web_of_ac01R 2)) (g_web_of : mg "web_of" = some (.ref f_web_of)) (k_web_of : PySem.W.keepIn K (.ref f_web_of) = true) (B_web_of : Binds K fd_web_of ["many", "ties"] []) {f_Lsame : Addr} {fd_Lsame : FuncData} (G_Lsame : FnOk P w K mg base (L2N.CX P w) k f_Lsame fd_Lsame ["_law_found", "_law_due"] (spD K mg (sem_Lsame_1a4f 6) 2)) (g_Lsame : mg "_law_same" = some (.ref f_Lsame)) (k_Lsame : PySem.W.keepIn K (.ref f_Lsame) = true) (B_Lsame : Binds K fd_Lsame ["_law_found", "_law_due"] []) {f_Lspoiled : Addr} {fd_Lspoiled : FuncData} (G_Lspoiled : FnOkG P w K mg base k f_Lspoiled fd_Lspoiled ["_law_pen_here", "_law_web_here"] (spD K mg sem_Lspoiled_a8cc 2)) (g_Lspoiled : mg "_law_spoiled" = some (.ref f_Lspoiled)) (k_Lspoiled : PySem.W.keepIn K (.ref f_Lspoiled) = true) (B_Lspoiled : Binds K fd_Lspoiled ["_law_pen_here", "_law_web_here"] []) (z_repr : mg "repr" = none) (z_range : mg "range" = none) (z_list : mg "list" = none) {C_NoWeb : Addr} {C_FloorError : Addr} (gx_NoWeb : mg "NoWeb" = some (.ref C_NoWeb)) (xe_NoWeb_FloorError : PySem.W.exmOne K (.ref C_NoWeb) (.ref C_FloorError) = some true) (gx_FloorError : mg "FloorError" = some (.ref C_FloorError)) {f_Ltold : Addr} {od_Ltold an_Ltold : Option Addr} {sl_Ltold : Array (Option Value)} {oc_Ltold kV_Ltold dc_Ltold pm_Ltold cd_Ltold ct_Ltold : Value} (l_Ltold : K.lookup f_Ltold = some ⟨oc_Ltold, od_Ltold, .func (PySem.W.fnOf "_law_told" "_law_told" (defArgs s_Ltold) (defBody s_Ltold) (defScope s_Ltold) .none kV_Ltold dc_Ltold pm_Ltold an_Ltold cd_Ltold ct_Ltold), sl_Ltold⟩) (c_Ltold : PySem.W.codeIn K cd_Ltold "_law_told" = true) (g_Ltold : mg "_law_told" = some (.ref f_Ltold)) (k_Ltold : PySem.W.keepIn K (.ref f_Ltold) = true) (B_Ltold : Binds K (PySem.W.fnOf "_law_told" "_law_told" (defArgs s_Ltold) (defBody s_Ltold) (defScope s_Ltold) .none kV_Ltold dc_Ltold pm_Ltold an_Ltold cd_Ltold ct_Ltold) ["_law_asked"] []) {f_Lword : Addr} {fd_Lword : FuncData} (g_Lword : mg "_law_word" = some (.ref f_Lword)) (k_Lword : PySem.W.keepIn K (.ref f_Lword) = true) (B_Lword : Binds K fd_Lword ["_law_e"] []) (W_NoWeb : FnW P w K mg base k f_Lword fd_Lword "_law_e" C_NoWeb sem_WNoWeb_1ef6) :
    FnAt P w K mg base A0 f (PySem.W.fnOf "law" "law" (defArgs s_law) (defBody s_law) (defScope s_law) .none kV dc pm an (.ref c) ct) ["_law_script"] (spT K mg (b_law_855cR Pt) ["_law_script", "_law_pen_here", "_law_web_here", "_law_handed_here", "_law_kept", "_law_found", "_law_k", "_law_again", "_law_tie", "_law_many", "_law_ties", "#tab"] 11 Pt) :=
  defU_ok hA hAG (N := ["_law_script", "_law_pen_here", "_law_web_here", "_law_handed_here", "_law_kept", "_law_found", "_law_k", "_law_again", "_law_tie", "_law_many", "_law_ties", "#tab"]) (i := 11) (z := "#tab") lk hcd sc_law rfl (by unfold Vis; decide +kernel) fun A outer s H E hr hG tk =>
    (dss_cons (ds_set (i := 1) sc_law.nd rfl (by first | exact Or.inl rfl | exact Or.inr rfl) (de_call tk G_Lpen (hr.mono (Nat.le_add_right _ 2)) (by rfl) g_Lpen k_Lpen B_Lpen rfl (da_cons (do_var (pv 0)) da_nil)))
    (dss_cons (ds_set (i := 2) sc_law.nd rfl (by first | exact Or.inl rfl | exact Or.inr rfl) (de_call tk G_Lweb (hr.mono (Nat.le_add_right _ 2)) (by rfl) g_Lweb k_Lweb B_Lweb rfl (da_cons (do_var (pv 1)) (da_cons (do_of de_int) (da_cons (do_of de_int) da_nil)))))
    (dss_cons (ds_set (i := 3) sc_law.nd rfl (by first | exact Or.inl rfl | exact Or.inr rfl) (de_call tk G_Lhanded (hr.mono (Nat.le_add_right _ 2)) (by rfl) g_Lhanded k_Lhanded B_Lhanded rfl (da_cons (do_var (pv 1)) (da_cons (do_var (pv 2)) da_nil))))
    (dss_cons (ds_set (i := 4) sc_law.nd rfl (by first | exact Or.inl rfl | exact Or.inr rfl) (de_cb (cd_reprT hG hr.units) (by rfl) z_repr (by decide +kernel) (da_cons (do_var (pv 3)) da_nil)))
    (dss_cons (ds_set (i := 5) sc_law.nd rfl (by first | exact Or.inl rfl | exact Or.inr rfl) (de_call tk G_web_of (hr.mono (Nat.le_add_right _ 2)) (by rfl) g_web_of k_web_of B_web_of rfl (da_cons (do_of (de_ix ixd_get (do_var (pv 2)) (do_of de_int) (fun _ _ => rfl))) (da_cons (do_var (pv 3)) da_nil))))
    (dss_cons (ds_if (db_w (dw_or (db_not (db_val (de_peek tk G_Lsame (hr.mono (Nat.le_add_right _ 2)) (by rfl) g_Lsame k_Lsame B_Lsame rfl (da_cons (do_var (pv 5)) (da_cons (do_var (pv 2)) da_nil))))) (dw_or1 (db_cmp od_neS (do_of (de_cb (cd_reprT hG hr.units) (by rfl) z_repr (by decide +kernel) (da_cons (do_var (pv 3)) da_nil))) (do_var (pv 4)) (nomark _))))) (dss_one (ds_ret de_bl)) dss_nil)
    (dss_cons (ds_for (passes_of rfl) rfl (di_rng1 (by rfl) z_range (do_of de_int)) (dg_name sc_law.nd rfl (by first | exact Or.inl rfl | exact Or.inr rfl)) (dss_cons (ds_unp (de_callG tk G_Lspoiled (hr.mono (Nat.le_add_right _ 2)) hG (by rfl) g_Lspoiled k_Lspoiled B_Lspoiled rfl (da_cons (do_var (pv 1)) (da_cons (do_var (pv 2)) da_nil))) (dg_tup rfl (dgs_cons (dg_name sc_law.nd rfl (by first | exact Or.inl rfl | exact Or.inr rfl)) (dgs_cons (dg_name sc_law.nd rfl (by first | exact Or.inl rfl | exact Or.inr rfl)) dgs_nil))) (setT_nx (by simp only [List.forall_mem_cons, List.not_mem_nil, false_imp_iff, implies_true, and_true]; exact ⟨setN_nx _, setN_nx _⟩)))
    (dss_cons (ds_set (i := 4) sc_law.nd rfl (by first | exact Or.inl rfl | exact Or.inr rfl) (de_cb (cd_reprT hG hr.units) (by rfl) z_repr (by decide +kernel) (da_cons (do_var (pv 10)) da_nil)))
    (dss_one (ds_if (db_w (dw_or (db_cmp (od_ne hr.units) (do_of (de_told (i := 11) (by rfl) g_Ltold k_Ltold l_Ltold c_Ltold B_Ltold sc_Ltold rfl (.inl rfl) (by exact told_gives (L := ["NoWeb"]) (word := (fun _ => Str.ofString "web")) (semw := (fun _ => sem_WNoWeb_1ef6)) (y := "_law_e") sc_Ltold.nd rfl rfl rfl rfl (by rfl) (by rfl) (by rfl) gx_FloorError (by rfl) g_Lword k_Lword B_Lword hr rfl (by intro n hn C hC; simp only [List.mem_cons, List.not_mem_nil, or_false] at hn; rcases hn with rfl <;> first | (cases gx_NoWeb.symm.trans hC; exact xe_NoWeb_FloorError)) (by intro n hn C hC; simp only [List.mem_cons, List.not_mem_nil, or_false] at hn; rcases hn with rfl; cases gx_NoWeb.symm.trans hC; exact ⟨W_NoWeb, sw_NoWeb⟩)) TBt rfl hr (LamX.lamS_by (by rfl)) rfl (fun _ _ _ _ _ => rfl) (fun A outer s H E f c' hr tk => (de_call tk G_web_of hr (by rfl) g_web_of k_web_of B_web_of rfl (da_cons (do_var (pv 9)) (da_cons (do_var (pv 10)) da_nil)))))) (do_of (de_tup (da_cons (do_of de_str) (da_cons (do_of de_str) da_nil)))) (nomark _)) (dw_or1 (db_cmp od_neS (do_of (de_cb (cd_reprT hG hr.units) (by rfl) z_repr (by decide +kernel) (da_cons (do_var (pv 10)) da_nil))) (do_var (pv 4)) (nomark _))))) (dss_one (ds_ret de_bl)) dss_nil)))))
    (dss_cons (ds_setLcL (i := 7) (own := [("_law_tie", 8)]) rfl sc_law.nd rfl rfl (sw_true rfl rfl rfl (by decide +kernel)) (di_seq (lo := false) (de_ix ixd_get (do_var (pv 2)) (do_of de_int) (fun _ _ => rfl))) (blkOk_by (own := [("_law_tie", 8)]) (by first | rfl | decide +kernel)) (fun _ _ _ _ _ => (dg_name sc_law.nd rfl (by first | exact Or.inl rfl | exact Or.inr rfl))) (fun _ _ _ _ _ => dts_nil) (fun _ _ _ _ _ => (de_ct cd_list (by rfl) z_list (by decide +kernel) (da_cons (do_var (pv 8)) da_nil))) (by decide))
    (dss_cons (ds_set (i := 5) sc_law.nd rfl (by first | exact Or.inl rfl | exact Or.inr rfl) (de_thawA (i := 7) (de_call tk G_web_of (hr.mono (Nat.le_add_right _ 2)) (by rfl) g_web_of k_web_of B_web_of rfl (da_cons (do_of (de_ix ixd_get (do_var (pv 2)) (do_of de_int) (fun _ _ => rfl))) (da_cons (do_var (pv 7)) da_nil)))))
    (dss_cons (ds_forA (i := 7) (j := 8) (passes_of rfl) rfl (pv 7) (pg_name sc_law.nd rfl (by first | exact Or.inl rfl | exact Or.inr rfl)) (dss_one (ds_expr (de_mut PySem.F.plainAttrs_list PySem.F.slot_list_append PySem.F.type_list_append md_append (pv 8) (da_cons (do_of de_int) da_nil)))))
    (dss_cons (ds_expr (de_clrL (pv 7)))
    (dss_one (ds_ret (de_and (de_peek tk G_Lsame (hr.mono (Nat.le_add_right _ 2)) (by rfl) g_Lsame k_Lsame B_Lsame rfl (da_cons (do_var (pv 5)) (da_cons (do_var (pv 2)) da_nil))) (de_one (de_peek tk G_Lsame (hr.mono (Nat.le_add_right _ 2)) (by rfl) g_Lsame k_Lsame B_Lsame rfl (da_cons (do_of (de_call tk G_web_of (hr.mono (Nat.le_add_right _ 2)) (by rfl) g_web_of k_web_of B_web_of rfl (da_cons (do_of (de_ix ixd_get (do_var (pv 2)) (do_of de_int) (fun _ _ => rfl))) (da_cons (do_of (de_ct cd_list (by rfl) z_list (by decide +kernel) (da_cons (do_of (de_ix ixd_get (do_var (pv 2)) (do_of de_int) (fun _ _ => rfl))) da_nil))) da_nil)))) (da_cons (do_var (pv 2)) da_nil))))))))))))))))))
set_option maxHeartbeats 4000000 in
theorem all_mk {h : Heap} {fa : Addr} (X : K.In h) (G : h.Ns mainGlobals mg) (hfa : mg "law" = some (.ref fa))
    {f_is_whole : Addr} {od_is_whole an_is_whole : Option Addr} {sl_is_whole : Array (Option Value)} {oc_is_whole kV_is_whole dc_is_whole pm_is_whole cd_is_whole ct_is_whole : Value} {f_is_row : Addr} {od_is_row an_is_row : Option Addr} {sl_is_row : Array (Option Value)} {oc_is_row kV_is_row dc_is_row pm_is_row cd_is_row ct_is_row : Value} {f_are_whole : Addr} {od_are_whole an_are_whole : Option Addr} {sl_are_whole : Array (Option Value)} {oc_are_whole kV_are_whole dc_are_whole pm_are_whole cd_are_whole ct_are_whole : Value} {f_is_tie : Addr} {od_is_tie an_is_tie : Option Addr} {sl_is_tie : Array (Option Value)} {oc_is_tie kV_is_tie dc_is_tie pm_is_tie cd_is_tie ct_is_tie : Value} {f_web_of : Addr} {od_web_of an_web_of : Option Addr} {sl_web_of : Array (Option Value)} {oc_web_of kV_web_of dc_web_of pm_web_of cd_web_of ct_web_of : Value} {f_Lpen : Addr} {od_Lpen an_Lpen : Option Addr} {sl_Lpen : Array (Option Value)} {oc_Lpen kV_Lpen dc_Lpen pm_Lpen cd_Lpen ct_Lpen : Value} {f_Ldraw : Addr} {od_Ldraw an_Ldraw : Option Addr} {sl_Ldraw : Array (Option Value)} {oc_Ldraw kV_Ldraw dc_Ldraw pm_Ldraw cd_Ldraw ct_Ldraw : Value} {f_Lweb : Addr} {od_Lweb an_Lweb : Option Addr} {sl_Lweb : Array (Option Value)} {oc_Lweb kV_Lweb dc_Lweb pm_Lweb cd_Lweb ct_Lweb : Value} {f_Lword : Addr} {od_Lword an_Lword : Option Addr} {sl_Lword : Array (Option Value)} {oc_Lword kV_Lword dc_Lword pm_Lword cd_Lword ct_Lword : Value} {f_Ltold : Addr} {od_Ltold an_Ltold : Option Addr} {sl_Ltold : Array (Option Value)} {oc_Ltold kV_Ltold dc_Ltold pm_Ltold cd_Ltold ct_Ltold : Value} {f_Lsame : Addr} {od_Lsame an_Lsame : Option Addr} {sl_Lsame : Array (Option Value)} {oc_Lsame kV_Lsame dc_Lsame pm_Lsame cd_Lsame ct_Lsame : Value} {f_Lhanded : Addr} {od_Lhanded an_Lhanded : Option Addr} {sl_Lhanded : Array (Option Value)} {oc_Lhanded kV_Lhanded dc_Lhanded pm_Lhanded cd_Lhanded ct_Lhanded : Value} {f_Lspoiled : Addr} {od_Lspoiled an_Lspoiled : Option Addr} {sl_Lspoiled : Array (Option Value)} {oc_Lspoiled kV_Lspoiled dc_Lspoiled pm_Lspoiled cd_Lspoiled ct_Lspoiled : Value} {f_law : Addr} {od_law an_law : Option Addr} {sl_law : Array (Option Value)} {oc_law kV_law dc_law pm_law cd_law ct_law : Value} {t_MOST_PLACES : Tok} {t_MOST_TIES : Tok} {C_NoWeb : Addr} {C_Apart : Addr} {C_NoEnd : Addr} {C_NoName : Addr} {C_NoNumber : Addr} {C_NoOrder : Addr} {C_NoPaper : Addr} {C_NoPlace : Addr} {C_NoRing : Addr} {C_NoRow : Addr} {C_NoTable : Addr} {C_NoText : Addr} {C_NoTie : Addr} {C_TooGreat : Addr} {C_TooMany : Addr} {C_FloorError : Addr} {cc_law Pt_law : Addr} {ec_law : Value} {dd_law : Option Addr} {vc_law : Array Value} {sc2_law : Array (Option Value)}
    (a_is_whole : PySem.W.nsIn K mainGlobals "is_whole" = some (some (.ref f_is_whole))) (l_is_whole : K.lookup f_is_whole = some ⟨oc_is_whole, od_is_whole, .func (PySem.W.fnOf "is_whole" "is_whole" (defArgs s_is_whole) (defBody s_is_whole) (defScope s_is_whole) .none kV_is_whole dc_is_whole pm_is_whole an_is_whole cd_is_whole ct_is_whole), sl_is_whole⟩) (c_is_whole : PySem.W.codeIn K cd_is_whole "is_whole" = true) (k_is_whole : PySem.W.keepIn K (.ref f_is_whole) = true)
    (a_is_row : PySem.W.nsIn K mainGlobals "is_row" = some (some (.ref f_is_row))) (l_is_row : K.lookup f_is_row = some ⟨oc_is_row, od_is_row, .func (PySem.W.fnOf "is_row" "is_row" (defArgs s_is_row) (defBody s_is_row) (defScope s_is_row) .none kV_is_row dc_is_row pm_is_row an_is_row cd_is_row ct_is_row), sl_is_row⟩) (c_is_row : PySem.W.codeIn K cd_is_row "is_row" = true) (k_is_row : PySem.W.keepIn K (.ref f_is_row) = true)
    (a_are_whole : PySem.W.nsIn K mainGlobals "are_whole" = some (some (.ref f_are_whole))) (l_are_whole : K.lookup f_are_whole = some ⟨oc_are_whole, od_are_whole, .func (PySem.W.fnOf "are_whole" "are_whole" (defArgs s_are_whole) (defBody s_are_whole) (defScope s_are_whole) .none kV_are_whole dc_are_whole pm_are_whole an_are_whole cd_are_whole ct_are_whole), sl_are_whole⟩) (c_are_whole : PySem.W.codeIn K cd_are_whole "are_whole" = true) (k_are_whole : PySem.W.keepIn K (.ref f_are_whole) = true)
    (a_is_tie : PySem.W.nsIn K mainGlobals "is_tie" = some (some (.ref f_is_tie))) (l_is_tie : K.lookup f_is_tie = some ⟨oc_is_tie, od_is_tie, .func (PySem.W.fnOf "is_tie" "is_tie" (defArgs s_is_tie) (defBody s_is_tie) (defScope s_is_tie) .none kV_is_tie dc_is_tie pm_is_tie an_is_tie cd_is_tie ct_is_tie), sl_is_tie⟩) (c_is_tie : PySem.W.codeIn K cd_is_tie "is_tie" = true) (k_is_tie : PySem.W.keepIn K (.ref f_is_tie) = true)
    (a_web_of : PySem.W.nsIn K mainGlobals "web_of" = some (some (.ref f_web_of))) (l_web_of : K.lookup f_web_of = some ⟨oc_web_of, od_web_of, .func (PySem.W.fnOf "web_of" "web_of" (defArgs s_web_of) (defBody s_web_of) (defScope s_web_of) .none kV_web_of dc_web_of pm_web_of an_web_of cd_web_of ct_web_of), sl_web_of⟩) (c_web_of : PySem.W.codeIn K cd_web_of "web_of" = true) (k_web_of : PySem.W.keepIn K (.ref f_web_of) = true)
    (a_Lpen : PySem.W.nsIn K mainGlobals "_law_pen" = some (some (.ref f_Lpen))) (l_Lpen : K.lookup f_Lpen = some ⟨oc_Lpen, od_Lpen, .func (PySem.W.fnOf "_law_pen" "_law_pen" (defArgs s_Lpen) (defBody s_Lpen) (defScope s_Lpen) .none kV_Lpen dc_Lpen pm_Lpen an_Lpen cd_Lpen ct_Lpen), sl_Lpen⟩) (c_Lpen : PySem.W.codeIn K cd_Lpen "_law_pen" = true) (k_Lpen : PySem.W.keepIn K (.ref f_Lpen) = true)
    (a_Ldraw : PySem.W.nsIn K mainGlobals "_law_draw" = some (some (.ref f_Ldraw))) (l_Ldraw : K.lookup f_Ldraw = some ⟨oc_Ldraw, od_Ldraw, .func (PySem.W.fnOf "_law_draw" "_law_draw" (defArgs s_Ldraw) (defBody s_Ldraw) (defScope s_Ldraw) .none kV_Ldraw dc_Ldraw pm_Ldraw an_Ldraw cd_Ldraw ct_Ldraw), sl_Ldraw⟩) (c_Ldraw : PySem.W.codeIn K cd_Ldraw "_law_draw" = true) (k_Ldraw : PySem.W.keepIn K (.ref f_Ldraw) = true)
    (a_Lweb : PySem.W.nsIn K mainGlobals "_law_web" = some (some (.ref f_Lweb))) (l_Lweb : K.lookup f_Lweb = some ⟨oc_Lweb, od_Lweb, .func (PySem.W.fnOf "_law_web" "_law_web" (defArgs s_Lweb) (defBody s_Lweb) (defScope s_Lweb) .none kV_Lweb dc_Lweb pm_Lweb an_Lweb cd_Lweb ct_Lweb), sl_Lweb⟩) (c_Lweb : PySem.W.codeIn K cd_Lweb "_law_web" = true) (k_Lweb : PySem.W.keepIn K (.ref f_Lweb) = true)
    (a_Lword : PySem.W.nsIn K mainGlobals "_law_word" = some (some (.ref f_Lword))) (l_Lword : K.lookup f_Lword = some ⟨oc_Lword, od_Lword, .func (PySem.W.fnOf "_law_word" "_law_word" (defArgs s_Lword) (defBody s_Lword) (defScope s_Lword) .none kV_Lword dc_Lword pm_Lword an_Lword cd_Lword ct_Lword), sl_Lword⟩) (c_Lword : PySem.W.codeIn K cd_Lword "_law_word" = true) (k_Lword : PySem.W.keepIn K (.ref f_Lword) = true)
    (a_Ltold : PySem.W.nsIn K mainGlobals "_law_told" = some (some (.ref f_Ltold))) (l_Ltold : K.lookup f_Ltold = some ⟨oc_Ltold, od_Ltold, .func (PySem.W.fnOf "_law_told" "_law_told" (defArgs s_Ltold) (defBody s_Ltold) (defScope s_Ltold) .none kV_Ltold dc_Ltold pm_Ltold an_Ltold cd_Ltold ct_Ltold), sl_Ltold⟩) (c_Ltold : PySem.W.codeIn K cd_Ltold "_law_told" = true) (k_Ltold : PySem.W.keepIn K (.ref f_Ltold) = true)
    (a_Lsame : PySem.W.nsIn K mainGlobals "_law_same" = some (some (.ref f_Lsame))) (l_Lsame : K.lookup f_Lsame = some ⟨oc_Lsame, od_Lsame, .func (PySem.W.fnOf "_law_same" "_law_same" (defArgs s_Lsame) (defBody s_Lsame) (defScope s_Lsame) .none kV_Lsame dc_Lsame pm_Lsame an_Lsame cd_Lsame ct_Lsame), sl_Lsame⟩) (c_Lsame : PySem.W.codeIn K cd_Lsame "_law_same" = true) (k_Lsame : PySem.W.keepIn K (.ref f_Lsame) = true)
    (a_Lhanded : PySem.W.nsIn K mainGlobals "_law_handed" = some (some (.ref f_Lhanded))) (l_Lhanded : K.lookup f_Lhanded = some ⟨oc_Lhanded, od_Lhanded, .func (PySem.W.fnOf "_law_handed" "_law_handed" (defArgs s_Lhanded) (defBody s_Lhanded) (defScope s_Lhanded) .none kV_Lhanded dc_Lhanded pm_Lhanded an_Lhanded cd_Lhanded ct_Lhanded), sl_Lhanded⟩) (c_Lhanded : PySem.W.codeIn K cd_Lhanded "_law_handed" = true) (k_Lhanded : PySem.W.keepIn K (.ref f_Lhanded) = true)
    (a_Lspoiled : PySem.W.nsIn K mainGlobals "_law_spoiled" = some (some (.ref f_Lspoiled))) (l_Lspoiled : K.lookup f_Lspoiled = some ⟨oc_Lspoiled, od_Lspoiled, .func (PySem.W.fnOf "_law_spoiled" "_law_spoiled" (defArgs s_Lspoiled) (defBody s_Lspoiled) (defScope s_Lspoiled) .none kV_Lspoiled dc_Lspoiled pm_Lspoiled an_Lspoiled cd_Lspoiled ct_Lspoiled), sl_Lspoiled⟩) (c_Lspoiled : PySem.W.codeIn K cd_Lspoiled "_law_spoiled" = true) (k_Lspoiled : PySem.W.keepIn K (.ref f_Lspoiled) = true)
    (a_law : PySem.W.nsIn K mainGlobals "law" = some (some (.ref f_law))) (l_law : K.lookup f_law = some ⟨oc_law, od_law, .func (PySem.W.fnOf "law" "law" (defArgs s_law) (defBody s_law) (defScope s_law) .none kV_law dc_law pm_law an_law cd_law ct_law), sl_law⟩) (c_law : PySem.W.codeIn K cd_law "law" = true) (k_law : PySem.W.keepIn K (.ref f_law) = true) (z_isinstance : PySem.W.nsIn K mainGlobals "isinstance" = some none) (z_int : PySem.W.nsIn K mainGlobals "int" = some none) (z_bool : PySem.W.nsIn K mainGlobals "bool" = some none) (z_list : PySem.W.nsIn K mainGlobals "list" = some none) (z_tuple : PySem.W.nsIn K mainGlobals "tuple" = some none) (z_all : PySem.W.nsIn K mainGlobals "all" = some none) (z_len : PySem.W.nsIn K mainGlobals "len" = some none) (z_min : PySem.W.nsIn K mainGlobals "min" = some none) (z_max : PySem.W.nsIn K mainGlobals "max" = some none) (z_MOST_PLACES : PySem.W.nsIn K mainGlobals "MOST_PLACES" = some (some (.int 25 t_MOST_PLACES))) (z_MOST_TIES : PySem.W.nsIn K mainGlobals "MOST_TIES" = some (some (.int 24 t_MOST_TIES))) (z_abs : PySem.W.nsIn K mainGlobals "abs" = some none) (z_range : PySem.W.nsIn K mainGlobals "range" = some none) (z_ValueError : PySem.W.nsIn K mainGlobals "ValueError" = some none) (z_zip : PySem.W.nsIn K mainGlobals "zip" = some none) (z_str : PySem.W.nsIn K mainGlobals "str" = some none) (z_repr : PySem.W.nsIn K mainGlobals "repr" = some none) (xa_NoWeb : PySem.W.nsIn K mainGlobals "NoWeb" = some (some (.ref C_NoWeb))) (xa_Apart : PySem.W.nsIn K mainGlobals "Apart" = some (some (.ref C_Apart))) (xa_NoEnd : PySem.W.nsIn K mainGlobals "NoEnd" = some (some (.ref C_NoEnd))) (xa_NoName : PySem.W.nsIn K mainGlobals "NoName" = some (some (.ref C_NoName))) (xa_NoNumber : PySem.W.nsIn K mainGlobals "NoNumber" = some (some (.ref C_NoNumber))) (xa_NoOrder : PySem.W.nsIn K mainGlobals "NoOrder" = some (some (.ref C_NoOrder))) (xa_NoPaper : PySem.W.nsIn K mainGlobals "NoPaper" = some (some (.ref C_NoPaper))) (xa_NoPlace : PySem.W.nsIn K mainGlobals "NoPlace" = some (some (.ref C_NoPlace))) (xa_NoRing : PySem.W.nsIn K mainGlobals "NoRing" = some (some (.ref C_NoRing))) (xa_NoRow : PySem.W.nsIn K mainGlobals "NoRow" = some (some (.ref C_NoRow))) (xa_NoTable : PySem.W.nsIn K mainGlobals "NoTable" = some (some (.ref C_NoTable))) (xa_NoText : PySem.W.nsIn K mainGlobals "NoText" = some (some (.ref C_NoText))) (xa_NoTie : PySem.W.nsIn K mainGlobals "NoTie" = some (some (.ref C_NoTie))) (xa_TooGreat : PySem.W.nsIn K mainGlobals "TooGreat" = some (some (.ref C_TooGreat))) (xa_TooMany : PySem.W.nsIn K mainGlobals "TooMany" = some (some (.ref C_TooMany))) (xa_FloorError : PySem.W.nsIn K mainGlobals "FloorError" = some (some (.ref C_FloorError))) (xq_NoWeb : PySem.W.excIn K C_NoWeb [.type "ValueError", .type "Exception", .type "BaseException", .type "object"] "ValueError.__new__" = true) (xk_NoWeb : PySem.W.keepIn K (.ref C_NoWeb) = true) (xb_NoWeb : PySem.W.subIn K (.ref C_NoWeb) (.type "BaseException") = some true) (xt_NoWeb : PySem.W.typeIn K (.ref C_NoWeb) = some (.type "type")) (xchg_NoWeb : PySem.W.findIn K (.ref C_NoWeb) "__getattribute__" = some (some (.builtin "BaseException.__getattribute__"))) (xchk_NoWeb : PySem.W.findIn K (.ref C_NoWeb) "__getattr__" = some none) (xchs_NoWeb : PySem.W.subIn K (.ref C_NoWeb) (.type "BaseException") = some true) (xchd_NoWeb : PySem.W.hasDictIn K C_NoWeb = true) (xcha_NoWeb : PySem.W.findIn K (.ref C_NoWeb) "__class__" = some (some (.builtin "object.__class__"))) (xchm_NoWeb : PySem.W.mroIn K C_NoWeb (.type "object") = some true) (xcn_NoWeb : PySem.W.specialIn K (.builtin "object.__class__") "__get__" = some (some (.builtin "getset_descriptor.__get__"))) (xct_NoWeb : PySem.W.takesIn K (.builtin "object.__class__") = some true) (xs_NoWeb_NoWeb : PySem.W.subIn K (.ref C_NoWeb) (.ref C_NoWeb) = some true) (xd_Apart : PySem.W.hasDictIn K C_Apart = true) (xt_Apart : PySem.W.typeIn K (.ref C_Apart) = some (.type "type")) (xs_NoWeb_Apart : PySem.W.subIn K (.ref C_NoWeb) (.ref C_Apart) = some false) (xd_NoEnd : PySem.W.hasDictIn K C_NoEnd = true) (xt_NoEnd : PySem.W.typeIn K (.ref C_NoEnd) = some (.type "type")) (xs_NoWeb_NoEnd : PySem.W.subIn K (.ref C_NoWeb) (.ref C_NoEnd) = some false) (xd_NoName : PySem.W.hasDictIn K C_NoName = true) (xt_NoName : PySem.W.typeIn K (.ref C_NoName) = some (.type "type")) (xs_NoWeb_NoName : PySem.W.subIn K (.ref C_NoWeb) (.ref C_NoName) = some false) (xd_NoNumber : PySem.W.hasDictIn K C_NoNumber = true) (xt_NoNumber : PySem.W.typeIn K (.ref C_NoNumber) = some (.type "type")) (xs_NoWeb_NoNumber : PySem.W.subIn K (.ref C_NoWeb) (.ref C_NoNumber) = some false) (xd_NoOrder : PySem.W.hasDictIn K C_NoOrder = true) (xt_NoOrder : PySem.W.typeIn K (.ref C_NoOrder) = some (.type "type")) (xs_NoWeb_NoOrder : PySem.W.subIn K (.ref C_NoWeb) (.ref C_NoOrder) = some false) (xd_NoPaper : PySem.W.hasDictIn K C_NoPaper = true) (xt_NoPaper : PySem.W.typeIn K (.ref C_NoPaper) = some (.type "type")) (xs_NoWeb_NoPaper : PySem.W.subIn K (.ref C_NoWeb) (.ref C_NoPaper) = some false) (xd_NoPlace : PySem.W.hasDictIn K C_NoPlace = true) (xt_NoPlace : PySem.W.typeIn K (.ref C_NoPlace) = some (.type "type")) (xs_NoWeb_NoPlace : PySem.W.subIn K (.ref C_NoWeb) (.ref C_NoPlace) = some false) (xd_NoRing : PySem.W.hasDictIn K C_NoRing = true) (xt_NoRing : PySem.W.typeIn K (.ref C_NoRing) = some (.type "type")) (xs_NoWeb_NoRing : PySem.W.subIn K (.ref C_NoWeb) (.ref C_NoRing) = some false) (xd_NoRow : PySem.W.hasDictIn K C_NoRow = true) (xt_NoRow : PySem.W.typeIn K (.ref C_NoRow) = some (.type "type")) (xs_NoWeb_NoRow : PySem.W.subIn K (.ref C_NoWeb) (.ref C_NoRow) = some false) (xd_NoTable : PySem.W.hasDictIn K C_NoTable = true) (xt_NoTable : PySem.W.typeIn K (.ref C_NoTable) = some (.type "type")) (xs_NoWeb_NoTable : PySem.W.subIn K (.ref C_NoWeb) (.ref C_NoTable) = some false) (xd_NoText : PySem.W.hasDictIn K C_NoText = true) (xt_NoText : PySem.W.typeIn K (.ref C_NoText) = some (.type "type")) (xs_NoWeb_NoText : PySem.W.subIn K (.ref C_NoWeb) (.ref C_NoText) = some false) (xd_NoTie : PySem.W.hasDictIn K C_NoTie = true) (xt_NoTie : PySem.W.typeIn K (.ref C_NoTie) = some (.type "type")) (xs_NoWeb_NoTie : PySem.W.subIn K (.ref C_NoWeb) (.ref C_NoTie) = some false) (xd_NoWeb : PySem.W.hasDictIn K C_NoWeb = true) (xd_TooGreat : PySem.W.hasDictIn K C_TooGreat = true) (xt_TooGreat : PySem.W.typeIn K (.ref C_TooGreat) = some (.type "type")) (xs_NoWeb_TooGreat : PySem.W.subIn K (.ref C_NoWeb) (.ref C_TooGreat) = some false) (xd_TooMany : PySem.W.hasDictIn K C_TooMany = true) (xt_TooMany : PySem.W.typeIn K (.ref C_TooMany) = some (.type "type")) (xs_NoWeb_TooMany : PySem.W.subIn K (.ref C_NoWeb) (.ref C_TooMany) = some false) (xs_NoWeb_ValueError : PySem.W.subIn K (.ref C_NoWeb) (.type "ValueError") = some true) (xb_FloorError : PySem.W.subIn K (.ref C_FloorError) (.type "BaseException") = some true) (xd_FloorError : PySem.W.hasDictIn K C_FloorError = true) (xt_FloorError : PySem.W.typeIn K (.ref C_FloorError) = some (.type "type")) (xs_NoWeb_FloorError : PySem.W.subIn K (.ref C_NoWeb) (.ref C_FloorError) = some true)
    (e_law : cd_law = .ref cc_law) (lc_law : K.lookup cc_law = some ⟨ec_law, dd_law, .fields vc_law, sc2_law⟩) (vp_law : vc_law[11]? = some (.ref Pt_law)) (np_law : K.lookup Pt_law = none) :
    ∃ (fd : FuncData) (o : Obj) (c Pt : Addr) (e : Value) (dd : Option Addr) (vs : Array Value) (sl : Array (Option Value)), K.lookup fa = some o ∧ o.data = .func fd ∧ fd.code = .ref c ∧ K.lookup c = some ⟨e, dd, .fields vs, sl⟩ ∧ vs[11]? = some (.ref Pt) ∧ K.lookup Pt = none ∧ (∀ (s : Shared) (v : Value), BindsTo s fd ⟨[v], []⟩ [("_law_script", v)]) ∧
      ∀ base : Heap, K.In base → base.Ns mainGlobals mg → LamX.TabB base mg c Pt → FnAt P w K mg base callerA fa fd ["_law_script"] (spT K mg (b_law_855cR Pt) ["_law_script", "_law_pen_here", "_law_web_here", "_law_handed_here", "_law_kept", "_law_found", "_law_k", "_law_again", "_law_tie", "_law_many", "_law_ties", "#tab"] 11 Pt) := by
  have e : fa = f_law := by
    have e := hfa.symm.trans (PySem.W.mg_of X G a_law)
    cases e; rfl
  rw [e]
  subst e_law
  have F_is_whole := fun_mk (st := s_is_whole) l_is_whole c_is_whole k_is_whole
  have B_is_whole := F_is_whole.binds (ps := ["thing"]) fun _ _ _ _ _ _ us hl => match us, hl with | [_], _ => rfl
  have g_is_whole := PySem.W.mg_of X G a_is_whole
  have F_is_row := fun_mk (st := s_is_row) l_is_row c_is_row k_is_row
  have B_is_row := F_is_row.binds (ps := ["thing"]) fun _ _ _ _ _ _ us hl => match us, hl with | [_], _ => rfl
  have g_is_row := PySem.W.mg_of X G a_is_row
  have F_are_whole := fun_mk (st := s_are_whole) l_are_whole c_are_whole k_are_whole
  have B_are_whole := F_are_whole.binds (ps := ["things"]) fun _ _ _ _ _ _ us hl => match us, hl with | [_], _ => rfl
  have g_are_whole := PySem.W.mg_of X G a_are_whole
  have F_is_tie := fun_mk (st := s_is_tie) l_is_tie c_is_tie k_is_tie
  have B_is_tie := F_is_tie.binds (ps := ["thing", "many"]) fun _ _ _ _ _ _ us hl => match us, hl with | [_, _], _ => rfl
  have g_is_tie := PySem.W.mg_of X G a_is_tie
  have F_web_of := fun_mk (st := s_web_of) l_web_of c_web_of k_web_of
  have B_web_of := F_web_of.binds (ps := ["many", "ties"]) fun _ _ _ _ _ _ us hl => match us, hl with | [_, _], _ => rfl
  have g_web_of := PySem.W.mg_of X G a_web_of
  have F_Lpen := fun_mk (st := s_Lpen) l_Lpen c_Lpen k_Lpen
  have B_Lpen := F_Lpen.binds (ps := ["_law_script"]) fun _ _ _ _ _ _ us hl => match us, hl with | [_], _ => rfl
  have g_Lpen := PySem.W.mg_of X G a_Lpen
  have F_Ldraw := fun_mk (st := s_Ldraw) l_Ldraw c_Ldraw k_Ldraw
  have B_Ldraw := F_Ldraw.binds (ps := ["_law_pen_here", "_law_many"]) fun _ _ _ _ _ _ us hl => match us, hl with | [_, _], _ => rfl
  have g_Ldraw := PySem.W.mg_of X G a_Ldraw
  have F_Lweb := fun_mk (st := s_Lweb) l_Lweb c_Lweb k_Lweb
  have B_Lweb := F_Lweb.binds (ps := ["_law_pen_here", "_law_places", "_law_ties"]) fun _ _ _ _ _ _ us hl => match us, hl with | [_, _, _], _ => rfl
  have g_Lweb := PySem.W.mg_of X G a_Lweb
  have F_Lword := fun_mk (st := s_Lword) l_Lword c_Lword k_Lword
  have B_Lword := F_Lword.binds (ps := ["_law_e"]) fun _ _ _ _ _ _ us hl => match us, hl with | [_], _ => rfl
  have g_Lword := PySem.W.mg_of X G a_Lword
  have F_Ltold := fun_mk (st := s_Ltold) l_Ltold c_Ltold k_Ltold
  have B_Ltold := F_Ltold.binds (ps := ["_law_asked"]) fun _ _ _ _ _ _ us hl => match us, hl with | [_], _ => rfl
  have g_Ltold := PySem.W.mg_of X G a_Ltold
  have F_Lsame := fun_mk (st := s_Lsame) l_Lsame c_Lsame k_Lsame
  have B_Lsame := F_Lsame.binds (ps := ["_law_found", "_law_due"]) fun _ _ _ _ _ _ us hl => match us, hl with | [_, _], _ => rfl
  have g_Lsame := PySem.W.mg_of X G a_Lsame
  have F_Lhanded := fun_mk (st := s_Lhanded) l_Lhanded c_Lhanded k_Lhanded
  have B_Lhanded := F_Lhanded.binds (ps := ["_law_pen_here", "_law_web_here"]) fun _ _ _ _ _ _ us hl => match us, hl with | [_, _], _ => rfl
  have g_Lhanded := PySem.W.mg_of X G a_Lhanded
  have F_Lspoiled := fun_mk (st := s_Lspoiled) l_Lspoiled c_Lspoiled k_Lspoiled
  have B_Lspoiled := F_Lspoiled.binds (ps := ["_law_pen_here", "_law_web_here"]) fun _ _ _ _ _ _ us hl => match us, hl with | [_, _], _ => rfl
  have g_Lspoiled := PySem.W.mg_of X G a_Lspoiled
  have F_law := fun_mk (st := s_law) l_law c_law k_law
  have B_law := F_law.binds (ps := ["_law_script"]) fun _ _ _ _ _ _ us hl => match us, hl with | [_], _ => rfl
  have g_law := PySem.W.mg_of X G a_law
  have y_isinstance := PySem.W.mg_none_of X G z_isinstance
  have y_int := PySem.W.mg_none_of X G z_int
  have y_bool := PySem.W.mg_none_of X G z_bool
  have y_list := PySem.W.mg_none_of X G z_list
  have y_tuple := PySem.W.mg_none_of X G z_tuple
  have y_all := PySem.W.mg_none_of X G z_all
  have y_len := PySem.W.mg_none_of X G z_len
  have y_min := PySem.W.mg_none_of X G z_min
  have y_max := PySem.W.mg_none_of X G z_max
  have y_MOST_PLACES : ∃ t, mg "MOST_PLACES" = some (.int 25 t) := ⟨_, PySem.W.mg_of X G z_MOST_PLACES⟩
  have y_MOST_TIES : ∃ t, mg "MOST_TIES" = some (.int 24 t) := ⟨_, PySem.W.mg_of X G z_MOST_TIES⟩
  have y_abs := PySem.W.mg_none_of X G z_abs
  have y_range := PySem.W.mg_none_of X G z_range
  have y_ValueError := PySem.W.mg_none_of X G z_ValueError
  have y_zip := PySem.W.mg_none_of X G z_zip
  have y_str := PySem.W.mg_none_of X G z_str
  have y_repr := PySem.W.mg_none_of X G z_repr
  have gx_NoWeb := PySem.W.mg_of X G xa_NoWeb
  have gx_Apart := PySem.W.mg_of X G xa_Apart
  have gx_NoEnd := PySem.W.mg_of X G xa_NoEnd
  have gx_NoName := PySem.W.mg_of X G xa_NoName
  have gx_NoNumber := PySem.W.mg_of X G xa_NoNumber
  have gx_NoOrder := PySem.W.mg_of X G xa_NoOrder
  have gx_NoPaper := PySem.W.mg_of X G xa_NoPaper
  have gx_NoPlace := PySem.W.mg_of X G xa_NoPlace
  have gx_NoRing := PySem.W.mg_of X G xa_NoRing
  have gx_NoRow := PySem.W.mg_of X G xa_NoRow
  have gx_NoTable := PySem.W.mg_of X G xa_NoTable
  have gx_NoText := PySem.W.mg_of X G xa_NoText
  have gx_NoTie := PySem.W.mg_of X G xa_NoTie
  have gx_TooGreat := PySem.W.mg_of X G xa_TooGreat
  have gx_TooMany := PySem.W.mg_of X G xa_TooMany
  have gx_FloorError := PySem.W.mg_of X G xa_FloorError
  have x_NoWeb : ExK K mg "NoWeb" C_NoWeb := ⟨gx_NoWeb, xq_NoWeb, xk_NoWeb, xb_NoWeb, xt_NoWeb⟩
  have xc_NoWeb : ExcC K C_NoWeb := ⟨xchg_NoWeb, xchk_NoWeb, xchs_NoWeb, xchd_NoWeb, xcha_NoWeb, xcn_NoWeb, xct_NoWeb, xchm_NoWeb⟩
  have kk_NoWeb_Apart : PySem.W.kitOne K (.ref C_NoWeb) (.ref C_Apart) = some false := (kit_ref xs_NoWeb_NoWeb xd_Apart xt_Apart xs_NoWeb_Apart)
  have kk_NoWeb_NoEnd : PySem.W.kitOne K (.ref C_NoWeb) (.ref C_NoEnd) = some false := (kit_ref xs_NoWeb_NoWeb xd_NoEnd xt_NoEnd xs_NoWeb_NoEnd)
  have kk_NoWeb_NoName : PySem.W.kitOne K (.ref C_NoWeb) (.ref C_NoName) = some false := (kit_ref xs_NoWeb_NoWeb xd_NoName xt_NoName xs_NoWeb_NoName)
  have kk_NoWeb_NoNumber : PySem.W.kitOne K (.ref C_NoWeb) (.ref C_NoNumber) = some false := (kit_ref xs_NoWeb_NoWeb xd_NoNumber xt_NoNumber xs_NoWeb_NoNumber)
  have kk_NoWeb_NoOrder : PySem.W.kitOne K (.ref C_NoWeb) (.ref C_NoOrder) = some false := (kit_ref xs_NoWeb_NoWeb xd_NoOrder xt_NoOrder xs_NoWeb_NoOrder)
  have kk_NoWeb_NoPaper : PySem.W.kitOne K (.ref C_NoWeb) (.ref C_NoPaper) = some false := (kit_ref xs_NoWeb_NoWeb xd_NoPaper xt_NoPaper xs_NoWeb_NoPaper)
  have kk_NoWeb_NoPlace : PySem.W.kitOne K (.ref C_NoWeb) (.ref C_NoPlace) = some false := (kit_ref xs_NoWeb_NoWeb xd_NoPlace xt_NoPlace xs_NoWeb_NoPlace)
  have kk_NoWeb_NoRing : PySem.W.kitOne K (.ref C_NoWeb) (.ref C_NoRing) = some false := (kit_ref xs_NoWeb_NoWeb xd_NoRing xt_NoRing xs_NoWeb_NoRing)
  have kk_NoWeb_NoRow : PySem.W.kitOne K (.ref C_NoWeb) (.ref C_NoRow) = some false := (kit_ref xs_NoWeb_NoWeb xd_NoRow xt_NoRow xs_NoWeb_NoRow)
  have kk_NoWeb_NoTable : PySem.W.kitOne K (.ref C_NoWeb) (.ref C_NoTable) = some false := (kit_ref xs_NoWeb_NoWeb xd_NoTable xt_NoTable xs_NoWeb_NoTable)
  have kk_NoWeb_NoText : PySem.W.kitOne K (.ref C_NoWeb) (.ref C_NoText) = some false := (kit_ref xs_NoWeb_NoWeb xd_NoText xt_NoText xs_NoWeb_NoText)
  have kk_NoWeb_NoTie : PySem.W.kitOne K (.ref C_NoWeb) (.ref C_NoTie) = some false := (kit_ref xs_NoWeb_NoWeb xd_NoTie xt_NoTie xs_NoWeb_NoTie)
  have kk_NoWeb_NoWeb : PySem.W.kitOne K (.ref C_NoWeb) (.ref C_NoWeb) = some true := (kit_ref xs_NoWeb_NoWeb xd_NoWeb xt_NoWeb xs_NoWeb_NoWeb)
  have kk_NoWeb_TooGreat : PySem.W.kitOne K (.ref C_NoWeb) (.ref C_TooGreat) = some false := (kit_ref xs_NoWeb_NoWeb xd_TooGreat xt_TooGreat xs_NoWeb_TooGreat)
  have kk_NoWeb_TooMany : PySem.W.kitOne K (.ref C_NoWeb) (.ref C_TooMany) = some false := (kit_ref xs_NoWeb_NoWeb xd_TooMany xt_TooMany xs_NoWeb_TooMany)
  have kk_NoWeb_ValueError : PySem.W.kitOne K (.ref C_NoWeb) (.type "ValueError") = some true := (kit_bty (by decide +kernel) xs_NoWeb_ValueError)
  have xe_NoWeb_FloorError : PySem.W.exmOne K (.ref C_NoWeb) (.ref C_FloorError) = some true := PySem.W.exm_ref xb_FloorError xd_FloorError xt_FloorError xs_NoWeb_FloorError
  refine ⟨PySem.W.fnOf "law" "law" (defArgs s_law) (defBody s_law) (defScope s_law) .none kV_law dc_law pm_law an_law (.ref cc_law) ct_law, _, cc_law, Pt_law, _, _, _, _, l_law, rfl, rfl, lc_law, vp_law, np_law, fun s v => .of_eq rfl, fun base _ _ TBt => ?_⟩
  have G_is_whole : FnOk P w K mg base (L2N.CX P w) 1 f_is_whole _ ["thing"] (spD K mg sem_is_whole_637d 1) := ok_is_whole (k := 0) F_is_whole y_isinstance y_int y_bool
  have G_is_row : FnOk P w K mg base (L2N.CX P w) 1 f_is_row _ ["thing"] (spD K mg sem_is_row_acca 1) := ok_is_row (k := 0) F_is_row y_isinstance y_list y_tuple
  have G_are_whole : FnOk P w K mg base (L2N.CX P w) 2 f_are_whole _ ["things"] (spD K mg sem_are_whole_5b5d 1) := ok_are_whole (k := 1) F_are_whole (G_is_whole.mono (by decide : 1 ≤ 1)) g_is_whole k_is_whole B_is_whole y_all
  have G_is_tie : FnOk P w K mg base (L2N.CX P w) 3 f_is_tie _ ["thing", "many"] (spD K mg sem_is_tie_8dfc 2) := ok_is_tie (k := 2) F_is_tie (G_is_row.mono (by decide : 1 ≤ 2)) g_is_row k_is_row B_is_row (G_are_whole.mono (by decide : 2 ≤ 2)) g_are_whole k_are_whole B_are_whole y_len y_min y_max
  have G_web_of : FnOk P w K mg base (L2N.CX P w) 4 f_web_of _ ["many", "ties"] (spD K mg sem_web_of_ac01R 2) := ok_web_of (k := 3) F_web_of (G_is_whole.mono (by decide : 1 ≤ 3)) g_is_whole k_is_whole B_is_whole (G_is_row.mono (by decide : 1 ≤ 3)) g_is_row k_is_row B_is_row (G_is_tie.mono (by decide : 3 ≤ 3)) g_is_tie k_is_tie B_is_tie y_MOST_PLACES y_len y_MOST_TIES y_tuple x_NoWeb
  have G_Lpen : FnOk P w K mg base (L2N.CX P w) 1 f_Lpen _ ["_law_script"] (spD K mg sem_Lpen_3d2f 1) := ok_Lpen (k := 0) F_Lpen 
  have G_Ldraw : FnOk P w K mg base (L2N.CX P w) 1 f_Ldraw _ ["_law_pen_here", "_law_many"] (spD K mg sem_Ldraw_de5b 2) := ok_Ldraw (k := 0) F_Ldraw y_len y_abs
  have G_Lweb : FnOk P w K mg base (L2N.CX P w) 2 f_Lweb _ ["_law_pen_here", "_law_places", "_law_ties"] (spD K mg sem_Lweb_0350 3) := ok_Lweb (k := 1) F_Lweb (G_Ldraw.mono (by decide : 1 ≤ 1)) g_Ldraw k_Ldraw B_Ldraw y_range y_min y_tuple
  have W_NoWeb : FnW P w K mg base 6 f_Lword _ "_law_e" C_NoWeb sem_WNoWeb_1ef6 := okw_NoWeb (k := 5) F_Lword y_isinstance y_len y_ValueError gx_Apart xc_NoWeb kk_NoWeb_Apart gx_NoEnd kk_NoWeb_NoEnd gx_NoName kk_NoWeb_NoName gx_NoNumber kk_NoWeb_NoNumber gx_NoOrder kk_NoWeb_NoOrder gx_NoPaper kk_NoWeb_NoPaper gx_NoPlace kk_NoWeb_NoPlace gx_NoRing kk_NoWeb_NoRing gx_NoRow kk_NoWeb_NoRow gx_NoTable kk_NoWeb_NoTable gx_NoText kk_NoWeb_NoText gx_NoTie kk_NoWeb_NoTie gx_NoWeb kk_NoWeb_NoWeb gx_TooGreat kk_NoWeb_TooGreat gx_TooMany kk_NoWeb_TooMany kk_NoWeb_ValueError
  have G_Lsame : FnOk P w K mg base (L2N.CX P w) 6 f_Lsame _ ["_law_found", "_law_due"] (spD K mg (sem_Lsame_1a4f 6) 2) := oks_Lsame (k := 0) F_Lsame g_Lsame B_Lsame y_isinstance y_list y_tuple y_len y_zip y_all y_bool y_str y_int 6
  have G_Lhanded : FnOk P w K mg base (L2N.CX P w) 2 f_Lhanded _ ["_law_pen_here", "_law_web_here"] (spD K mg sem_Lhanded_ab27 2) := ok_Lhanded (k := 1) F_Lhanded (G_Ldraw.mono (by decide : 1 ≤ 1)) g_Ldraw k_Ldraw B_Ldraw y_list y_tuple
  have G_Lspoiled : FnOkG P w K mg base 3 f_Lspoiled _ ["_law_pen_here", "_law_web_here"] (spD K mg sem_Lspoiled_a8cc 2) := ok_Lspoiled (k := 2) F_Lspoiled (G_Ldraw.mono (by decide : 1 ≤ 2)) g_Ldraw k_Ldraw B_Ldraw (G_Lhanded.mono (by decide : 2 ≤ 2)) g_Lhanded k_Lhanded B_Lhanded y_str y_list y_len y_tuple
  have G_law := ok_law (P := P) (w := w) (k := 6) (A0 := callerA) ⟨rfl, by decide, by decide⟩ rfl l_law c_law TBt (G_Lpen.mono (by decide : 1 ≤ 6)) g_Lpen k_Lpen B_Lpen (G_Lweb.mono (by decide : 2 ≤ 6)) g_Lweb k_Lweb B_Lweb (G_Lhanded.mono (by decide : 2 ≤ 6)) g_Lhanded k_Lhanded B_Lhanded (G_web_of.mono (by decide : 4 ≤ 6)) g_web_of k_web_of B_web_of (G_Lsame.mono (by decide : 6 ≤ 6)) g_Lsame k_Lsame B_Lsame (G_Lspoiled.mono (by decide : 3 ≤ 6)) g_Lspoiled k_Lspoiled B_Lspoiled y_repr y_range y_list gx_NoWeb xe_NoWeb_FloorError gx_FloorError l_Ltold c_Ltold g_Ltold k_Ltold B_Ltold g_Lword k_Lword B_Lword W_NoWeb
  exact G_law
end
end Lw
end

section
namespace Lw
open PySem DL
theorem law_true (P : Nat) (ns : List Int) (h : ns.length ≤ 63) : ∃ ys, ys.length = 1 ∧ (sem_law_855cR P) [.fz (scrD ns)] = some (.ok (.val (.bool true)), ys) := by
  obtain ⟨o, ys, e, rfl, hl⟩ := law01_ok P ns h
  exact ⟨ys, hl, e⟩
end Lw
end

section
open PySem PySem.W PyProof.Rows
set_option maxRecDepth 100000 in
set_option maxHeartbeats 0 in
theorem PySem.Challenge.cw_holefloor_k01_webs_made_holds : PySem.Challenge.rw_holefloor_k01_webs_made.Holds := by
  w_on; o_law; k_head; (case hw => w_witness2)
  k_fill
  refine DL.walk_dU (l := PySem.Challenge.rw_holefloor_k01_webs_made) (n := 63) (i := 11) (x := "_law_script") (N := ["_law_script", "_law_pen_here", "_law_web_here", "_law_handed_here", "_law_kept", "_law_found", "_law_k", "_law_again", "_law_tie", "_law_many", "_law_ties", "#tab"]) (body := Lw.b_law_855cR) rfl (by decide) rfl (by decide +kernel) (fun w h Y => PySem.W.km_in_of Y) (by decide) (by decide) (fun Pt ns h => Lw.law_true Pt ns h) ?F
  case F =>
    intro w mg fa h KX G hmg
    refine' Lw.all_mk KX G hmg ?a_is_whole ?l_is_whole ?c_is_whole ?k_is_whole ?a_is_row ?l_is_row ?c_is_row ?k_is_row ?a_are_whole ?l_are_whole ?c_are_whole ?k_are_whole ?a_is_tie ?l_is_tie ?c_is_tie ?k_is_tie ?a_web_of ?l_web_of ?c_web_of ?k_web_of ?a_Lpen ?l_Lpen ?c_Lpen ?k_Lpen ?a_Ldraw ?l_Ldraw ?c_Ldraw ?k_Ldraw ?a_Lweb ?l_Lweb ?c_Lweb ?k_Lweb ?a_Lword ?l_Lword ?c_Lword ?k_Lword ?a_Ltold ?l_Ltold ?c_Ltold ?k_Ltold ?a_Lsame ?l_Lsame ?c_Lsame ?k_Lsame ?a_Lhanded ?l_Lhanded ?c_Lhanded ?k_Lhanded ?a_Lspoiled ?l_Lspoiled ?c_Lspoiled ?k_Lspoiled ?a_law ?l_law ?c_law ?k_law ?z_isinstance ?z_int ?z_bool ?z_list ?z_tuple ?z_all ?z_len ?z_min ?z_max ?z_MOST_PLACES ?z_MOST_TIES ?z_abs ?z_range ?z_ValueError ?z_zip ?z_str ?z_repr ?xa_NoWeb ?xa_Apart ?xa_NoEnd ?xa_NoName ?xa_NoNumber ?xa_NoOrder ?xa_NoPaper ?xa_NoPlace ?xa_NoRing ?xa_NoRow ?xa_NoTable ?xa_NoText ?xa_NoTie ?xa_TooGreat ?xa_TooMany ?xa_FloorError ?xq_NoWeb ?xk_NoWeb ?xb_NoWeb ?xt_NoWeb ?xchg_NoWeb ?xchk_NoWeb ?xchs_NoWeb ?xchd_NoWeb ?xcha_NoWeb ?xchm_NoWeb ?xcn_NoWeb ?xct_NoWeb ?xs_NoWeb_NoWeb ?xd_Apart ?xt_Apart ?xs_NoWeb_Apart ?xd_NoEnd ?xt_NoEnd ?xs_NoWeb_NoEnd ?xd_NoName ?xt_NoName ?xs_NoWeb_NoName ?xd_NoNumber ?xt_NoNumber ?xs_NoWeb_NoNumber ?xd_NoOrder ?xt_NoOrder ?xs_NoWeb_NoOrder ?xd_NoPaper ?xt_NoPaper ?xs_NoWeb_NoPaper ?xd_NoPlace ?xt_NoPlace ?xs_NoWeb_NoPlace ?xd_NoRing ?xt_NoRing ?xs_NoWeb_NoRing ?xd_NoRow ?xt_NoRow ?xs_NoWeb_NoRow ?xd_NoTable ?xt_NoTable ?xs_NoWeb_NoTable ?xd_NoText ?xt_NoText ?xs_NoWeb_NoText ?xd_NoTie ?xt_NoTie ?xs_NoWeb_NoTie ?xd_NoWeb ?xd_TooGreat ?xt_TooGreat ?xs_NoWeb_TooGreat ?xd_TooMany ?xt_TooMany ?xs_NoWeb_TooMany ?xs_NoWeb_ValueError ?xb_FloorError ?xd_FloorError ?xt_FloorError ?xs_NoWeb_FloorError ?e_law ?lc_law ?vp_law ?np_law
    (case a_is_whole => k_is); (case l_is_whole => k_is); (case c_is_whole => k_is); (case k_is_whole => k_is); (case a_is_row => k_is); (case l_is_row => k_is); (case c_is_row => k_is); (case k_is_row => k_is); (case a_are_whole => k_is); (case l_are_whole => k_is); (case c_are_whole => k_is); (case k_are_whole => k_is); (case a_is_tie => k_is); (case l_is_tie => k_is); (case c_is_tie => k_is); (case k_is_tie => k_is); (case a_web_of => k_is); (case l_web_of => k_is); (case c_web_of => k_is); (case k_web_of => k_is); (case a_Lpen => k_is); (case l_Lpen => k_is); (case c_Lpen => k_is); (case k_Lpen => k_is); (case a_Ldraw => k_is); (case l_Ldraw => k_is); (case c_Ldraw => k_is); (case k_Ldraw => k_is); (case a_Lweb => k_is); (case l_Lweb => k_is); (case c_Lweb => k_is); (case k_Lweb => k_is); (case a_Lword => k_is); (case l_Lword => k_is); (case c_Lword => k_is); (case k_Lword => k_is); (case a_Ltold => k_is); (case l_Ltold => k_is); (case c_Ltold => k_is); (case k_Ltold => k_is); (case a_Lsame => k_is); (case l_Lsame => k_is); (case c_Lsame => k_is); (case k_Lsame => k_is); (case a_Lhanded => k_is); (case l_Lhanded => k_is); (case c_Lhanded => k_is); (case k_Lhanded => k_is); (case a_Lspoiled => k_is); (case l_Lspoiled => k_is); (case c_Lspoiled => k_is); (case k_Lspoiled => k_is); (case a_law => k_is); (case l_law => k_is); (case c_law => k_is); (case k_law => k_is); (case z_isinstance => k_is); (case z_int => k_is); (case z_bool => k_is); (case z_list => k_is); (case z_tuple => k_is); (case z_all => k_is); (case z_len => k_is); (case z_min => k_is); (case z_max => k_is); (case z_MOST_PLACES => k_is); (case z_MOST_TIES => k_is); (case z_abs => k_is); (case z_range => k_is); (case z_ValueError => k_is); (case z_zip => k_is); (case z_str => k_is); (case z_repr => k_is); (case xa_NoWeb => k_is); (case xa_Apart => k_is); (case xa_NoEnd => k_is); (case xa_NoName => k_is); (case xa_NoNumber => k_is); (case xa_NoOrder => k_is); (case xa_NoPaper => k_is); (case xa_NoPlace => k_is); (case xa_NoRing => k_is); (case xa_NoRow => k_is); (case xa_NoTable => k_is); (case xa_NoText => k_is); (case xa_NoTie => k_is); (case xa_TooGreat => k_is); (case xa_TooMany => k_is); (case xa_FloorError => k_is); (case xq_NoWeb => k_exc); (case xk_NoWeb => k_is); (case xb_NoWeb => k_is); (case xt_NoWeb => k_is); (case xchg_NoWeb => k_is); (case xchk_NoWeb => k_is); (case xchs_NoWeb => k_is); (case xchd_NoWeb => k_is); (case xcha_NoWeb => k_is); (case xchm_NoWeb => k_is); (case xcn_NoWeb => k_is); (case xct_NoWeb => k_is); (case xs_NoWeb_NoWeb => k_is); (case xd_Apart => k_is); (case xt_Apart => k_is); (case xs_NoWeb_Apart => k_is); (case xd_NoEnd => k_is); (case xt_NoEnd => k_is); (case xs_NoWeb_NoEnd => k_is); (case xd_NoName => k_is); (case xt_NoName => k_is); (case xs_NoWeb_NoName => k_is); (case xd_NoNumber => k_is); (case xt_NoNumber => k_is); (case xs_NoWeb_NoNumber => k_is); (case xd_NoOrder => k_is); (case xt_NoOrder => k_is); (case xs_NoWeb_NoOrder => k_is); (case xd_NoPaper => k_is); (case xt_NoPaper => k_is); (case xs_NoWeb_NoPaper => k_is); (case xd_NoPlace => k_is); (case xt_NoPlace => k_is); (case xs_NoWeb_NoPlace => k_is); (case xd_NoRing => k_is); (case xt_NoRing => k_is); (case xs_NoWeb_NoRing => k_is); (case xd_NoRow => k_is); (case xt_NoRow => k_is); (case xs_NoWeb_NoRow => k_is); (case xd_NoTable => k_is); (case xt_NoTable => k_is); (case xs_NoWeb_NoTable => k_is); (case xd_NoText => k_is); (case xt_NoText => k_is); (case xs_NoWeb_NoText => k_is); (case xd_NoTie => k_is); (case xt_NoTie => k_is); (case xs_NoWeb_NoTie => k_is); (case xd_NoWeb => k_is); (case xd_TooGreat => k_is); (case xt_TooGreat => k_is); (case xs_NoWeb_TooGreat => k_is); (case xd_TooMany => k_is); (case xt_TooMany => k_is); (case xs_NoWeb_TooMany => k_is); (case xs_NoWeb_ValueError => k_is); (case xb_FloorError => k_is); (case xd_FloorError => k_is); (case xt_FloorError => k_is); (case xs_NoWeb_FloorError => k_is); (case e_law => rfl); (case lc_law => k_is); (case vp_law => rfl); (case np_law => rfl)
end
