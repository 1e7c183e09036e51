import PyProof.Rows.All
import Wide.All
import OpenK.AllK
import Wide.FinOn
import PySem.Challenge.RW_pitchward_k56_lines_looked_at
import HandS.ForMost
import HandS.Conv
import HandS.TupAny
import HandS.Strs
import HandS.IsInst
import HandS.Flow
import HandS.Zip
import HandS.Small
import HandS.Lambda
import HandS.Wide
import HandS.Deep
import KE.SortData
import KE.LtData
import KE.SortKeyHeap
import PyProof.ReprRoads
import HandS.Style
import PyProof.EnumMake
import PyProof.Draws
import PyProof.WalksEnum
import KE.GoesEnum
import KE.GoesMore
import PyProof.StrOps2
import HandS.Dict
import PyProof.DictWalks
import PyProof.CollectWalk
import PyProof.ListNew
import KE.KItemsList
import HandS.Sort
import HandS.Comp
import HandS.TryOnly
import PyProof.AutoSeq1
import HandS.Exc
import HandS.SetFor
import HandS.SetKeys
import KE.KSortKey
import HandS.SortKw
import KE.KDictList
import HandS.More
import KE.KDictPairs
import HandS.ListItems
import HandS.ExcOwn
import HandS.ExcIs
import KE.KExcIs
import HandS.ExcInit
import HandS.Words
import KE.GoesZip
import HandS.WordsDict
import PyProof.SeqIndex
import HandS.TupMul
import HandS.RaiseMore
import HandS.Text
import HandS.NoneIn
import KE.KDictZip
import PyProof.TupleOfGen
import HandS.ExcValue
import HandS.TupSets
import HandS.EndTab
import HandS.Codes
import PyProof.ReprLen
set_option Elab.async false
set_option linter.all false
set_option maxRecDepth 100000
set_option maxHeartbeats 4000000
namespace DL
open PySem PySem.Spec PyProof.Rows L2
def PqT (K : PySem.W.Frag) (G : Hp) (a : Addr) (vs : List V) : Prop :=
  (∃ o, G a = some (.frz o (.tup vs)) ∧ o.dict = none) ∨ ∃ (o : Obj) (its : Array Value) (n : Nat), K.lookup a = some o ∧ o.cls = .type "tuple" ∧ o.dict = none ∧ o.data = .seq its n ∧ its.size ≤ sizeLine ∧ Vals vs its.toList
theorem PqT.sq {K : PySem.W.Frag} {G : Hp} {a : Addr} {vs : List V} (h : PqT K G a vs) : SqT K G a vs := by
  rcases h with ⟨o, e, _⟩ | ⟨o, its, n, e, c, _, r⟩
  · exact .inl (.inr ⟨o, e⟩)
  · exact .inr ⟨o, its, n, e, c, r⟩
theorem PqT.keep {K : PySem.W.Frag} {G G' : Hp} {a : Addr} {vs : List V} (s : ∀ o, G a = some (.frz o (.tup vs)) → G' a = some (.frz o (.tup vs))) (h : PqT K G a vs) : PqT K G' a vs := by
  rcases h with ⟨o, e, d⟩ | h
  · exact .inl ⟨o, s _ e, d⟩
  · exact .inr h
theorem PqT.new {K : PySem.W.Frag} {G : Hp} {p : Addr} {vs : List V} {o : Obj} (d : o.dict = none) : PqT K (upd G p (.frz o (.tup vs))) p vs := .inl ⟨o, upd_same, d⟩
section
variable {X : Cx} {pins : List (Addr × Obj)} {σ : L2.St} {H : Hp} {s : Shared} {h' : Heap}
def tupOb (us : List Value) : Obj := { cls := .type "tuple", data := .seq us.toArray }
theorem laidF {xs : List V} {us : List Value} {Q : VK} (I : Inv X pins σ H s) (r : Vals xs us) (z : xs.length ≤ sizeLine) (q : ∀ p o, o.dict = none → H p = none → Q (.ref p) (upd H p (.frz o (.tup xs)))) :
    EP X pins σ Q (.ref s.heap.objs.size) { s with heap := s.heap.push (tupOb us) } := by
  have at0 : (s.heap.push (tupOb us)).get? s.heap.objs.size = some (tupOb us) := Heap.get?_push_size _ rfl
  have new : ObjOk X.prog X.w (upd H s.heap.objs.size (.frz (tupOb us) (.tup xs))) (s.heap.push (tupOb us)) s.heap.objs.size (.frz (tupOb us) (.tup xs)) := ⟨at0, z, us, r, ⟨_, at0, rfl, 0, rfl⟩⟩
  have I2 := I.laid (t' := s.toks) (fun b u e => Heap.get?_push_of_some (tupOb us) e) (Nat.le_refl _) new
  exact ⟨.ref s.heap.objs.size, _, I2, rfl, q _ _ rfl (I.hok.fresh (Nat.le_refl _))⟩
end
def tTupF (t : TA) : TE := fun σ H Q => t σ H fun xs H1 => xs.length ≤ sizeLine ∧ ∀ p o, o.dict = none → H1 p = none → Q (.ref p) (upd H1 p (.frz o (.tup xs)))
section
variable {X : Cx} {es : List Expr} {t : TA} {pos : Pos}
theorem pe_tupF {x1} (h : PA X es t) : PE X (.Tuple es x1 pos) (tTupF t) := by
  constructor
  intro pins s σ H Q I hq
  refine wpAny_Tuple_spliced (thn (h.run pos pins s σ H _ I hq) ?_)
  rintro us s1 ⟨xs, H1, I1, r, z, q⟩
  have z' : us.length ≤ sizeLine := by have := r.length; omega
  exact ⟨z', laidF I1 r z q⟩
theorem call_tupF : CallR X (.type "tuple") (fun xs H Q => ∃ p ys, xs = [.ref p] ∧ ((SqL X.K H p ys ∧ ∀ l o, o.dict = none → H l = none → Q (.ref l) (upd H l (.frz o (.tup ys)))) ∨ (SqT X.K H p ys ∧ Q (.ref p) H))) := by
  rintro pins s σ H xs us Q I r ⟨p, ys, rfl, h⟩
  obtain ⟨u, rfl, rx⟩ := vals1 r
  obtain rfl : u = Value.ref p := rx
  cases h with
  | inl h =>
    obtain ⟨its, rv, pl, hz⟩ := I.list h.1
    refine call_tuple_list pl.isList (fun h2 kp => ?_) (by rw [List.size_toArray, ← rv.length]; exact hz)
    exact laidF (s := { s with heap := h2 }) (I.kept (t' := s.toks) kp) rv hz h.2
  | inr h =>
    obtain ⟨its, _, pl, _⟩ := I.tuple h.1
    exact call_tuple_same pl ⟨.ref p, H, I, rfl, h.2⟩
def rSlF (K : PySem.W.Frag) : V → Option Int → Option Int → Hp → VK → Prop := fun x lo hi H Q => ∃ a xs, x = .ref a ∧ SqT K H a xs ∧
  (HT.sIx xs.length 0 lo = 0 ∧ HT.sIx xs.length xs.length hi = xs.length → Q (.ref a) H) ∧
  (¬ (HT.sIx xs.length 0 lo = 0 ∧ HT.sIx xs.length xs.length hi = xs.length) → ∀ p o, o.dict = none → H p = none → Q (.ref p) (upd H p (.frz o (.tup (cutV xs lo hi)))))
theorem sl_tupF : SlR X (rSlF X.K) := by
  rintro pins s σ H x v vl vu lo hi sl Q I rx hs pl pu ⟨a, xs, rfl, hx, q1, q2⟩
  by_cases hw : HT.sIx xs.length 0 lo = 0 ∧ HT.sIx xs.length xs.length hi = xs.length
  · exact sl_tupA pins s σ H _ v vl vu lo hi sl Q I rx hs pl pu ⟨a, xs, rfl, hx, q1, fun n => absurd hw n⟩
  · obtain rfl : v = Value.ref a := rx
    obtain ⟨its, r, ht, hz⟩ := I.tuple hx
    have hl : its.toArray.size = xs.length := by rw [List.size_toArray, r.length]
    refine ⟨"tuple", _, PyProof.Rows.slot_tuple_getitem.lookup, ht.typeIs, HT.getItem_tuple_cut ht hs pl pu (by rw [hl]; exact hw) ?_ (by rw [hl]; exact hz)⟩
    rw [hl]
    exact laidF I ((r.drop _).take _) (Nat.le_trans (cutV_length xs lo hi) hz) (q2 hw)
def rCatF (K : PySem.W.Frag) : R2 := fun x y H Q => ∃ a b xs ys, x = .ref a ∧ y = .ref b ∧ SqT K H a xs ∧ SqT K H b ys ∧ xs.length + ys.length ≤ sizeLine ∧
  (xs = [] → Q (.ref b) H) ∧ (xs ≠ [] → ys = [] → Q (.ref a) H) ∧ (xs ≠ [] → ys ≠ [] → ∀ p o, o.dict = none → H p = none → Q (.ref p) (upd H p (.frz o (.tup (xs ++ ys)))))
theorem op_catF : OpR X (binaryOp .Add) (rCatF X.K) := by
  rintro pins s σ H x y v u Q I rx ry ⟨a, b, xs, ys, rfl, rfl, ha, hb, hz, q0, q1, q2⟩
  by_cases hx : xs = []
  · exact op_catA pins s σ H _ _ v u Q I rx ry ⟨a, b, xs, ys, rfl, rfl, ha, hb, hz, q0, fun n => absurd hx n, fun n => absurd hx n⟩
  · by_cases hy : ys = []
    · exact op_catA pins s σ H _ _ v u Q I rx ry ⟨a, b, xs, ys, rfl, rfl, ha, hb, hz, q0, q1, fun _ n => absurd hy n⟩
    · obtain rfl : v = Value.ref a := rx
      obtain rfl : u = Value.ref b := ry
      obtain ⟨us, r1, p1, _⟩ := I.tuple ha
      obtain ⟨ws, r2, p2, _⟩ := I.tuple hb
      refine HT.cat_tup p1 p2 (fun z => hx (r1.nil_iff.mp z)) (fun z => absurd (r2.nil_iff.mp z) hy) (fun _ => ?_) (by have := r1.length; have := r2.length; omega)
      exact laidF I (r1.append r2) (by rw [List.length_append]; exact hz) (q2 hx hy)
end
set_option Elab.async false
set_option linter.all false
set_option maxRecDepth 100000
set_option maxHeartbeats 4000000
section
abbrev D := PyData
def kD : Key → D
  | .inl i => .int i
  | .inr x => .str x
mutual
inductive Den (K : PySem.W.Frag) (G : Hp) : V → D → Prop
  | non : Den K G .non .none
  | bl (b : Bool) : Den K G (.bl b) (.bool b)
  | int (i : Int) : Den K G (.int i) (.int i)
  | str (x : Str) : x.length ≤ sizeLine → PyData.strOk x = true → Den K G (.str x) (.str x)
  | lst {a : Addr} {vs : List V} {ds : List D} : G a = some (.lst vs) → vs.length ≤ sizeLine → DenAll K G vs ds → Den K G (.ref a) (.list ds)
  | tup {a : Addr} {vs : List V} {ds : List D} : PqT K G a vs → vs.length ≤ sizeLine → DenAll K G vs ds → Den K G (.ref a) (.tuple ds)
  | emp {a : Addr} : G a = some (.dK []) → Den K G (.ref a) (.dict [])
  | dct {a : Addr} {xs : List (Key × V)} {es : List (D × D)} : G a = some (.dK xs) → xs.length ≤ sizeLine → DenKV K G xs es → Den K G (.ref a) (.dict ((.none, .bool true) :: es))
  | obj {a C dx : Addr} {x : Str} {fs : List (Str × V)} {es : List (D × D)} : G a = some (.ins C dx fs) → PySem.W.nsIn K mainGlobals x = some (some (.ref C)) → DenFs K G fs es → Den K G (.ref a) (.dict ((.none, .str x) :: es))
inductive DenAll (K : PySem.W.Frag) (G : Hp) : List V → List D → Prop
  | nil : DenAll K G [] []
  | cons {v : V} {vs : List V} {d : D} {ds : List D} : Den K G v d → DenAll K G vs ds → DenAll K G (v :: vs) (d :: ds)
inductive DenKV (K : PySem.W.Frag) (G : Hp) : List (Key × V) → List (D × D) → Prop
  | nil : DenKV K G [] []
  | cons {k : Key} {v : V} {d : D} {r : List (Key × V)} {s : List (D × D)} : Den K G (kV k) (kD k) → Den K G v d → DenKV K G r s → DenKV K G ((k, v) :: r) ((kD k, d) :: s)
inductive DenFs (K : PySem.W.Frag) (G : Hp) : List (Str × V) → List (D × D) → Prop
  | nil : DenFs K G [] []
  | cons {f : Str} {v : V} {d : D} {r : List (Str × V)} {s : List (D × D)} : Den K G v d → DenFs K G r s → DenFs K G ((f, v) :: r) ((.str f, d) :: s)
end
section
variable {K : PySem.W.Frag} {G G' : Hp}
mutual
theorem Den.mono (s : Same G G') : ∀ {v : V} {d : D}, Den K G v d → Den K G' v d
  | _, _, .non => .non
  | _, _, .bl b => .bl b
  | _, _, .int i => .int i
  | _, _, .str x h o => .str x h o
  | _, _, .lst e z r => .lst (s _ _ e) z (DenAll.mono s r)
  | _, _, .tup q z r => .tup (q.keep fun o e => s _ _ e) z (DenAll.mono s r)
  | _, _, .emp e => .emp (s _ _ e)
  | _, _, .dct e z r => .dct (s _ _ e) z (DenKV.mono s r)
  | _, _, .obj e n r => .obj (s _ _ e) n (DenFs.mono s r)
theorem DenKV.mono (s : Same G G') : ∀ {vs : List (Key × V)} {ds : List (D × D)}, DenKV K G vs ds → DenKV K G' vs ds
  | _, _, .nil => .nil
  | _, _, .cons k h r => .cons (Den.mono s k) (Den.mono s h) (DenKV.mono s r)
theorem DenFs.mono (s : Same G G') : ∀ {vs : List (Str × V)} {ds : List (D × D)}, DenFs K G vs ds → DenFs K G' vs ds
  | _, _, .nil => .nil
  | _, _, .cons h r => .cons (Den.mono s h) (DenFs.mono s r)
theorem DenAll.mono (s : Same G G') : ∀ {vs : List V} {ds : List D}, DenAll K G vs ds → DenAll K G' vs ds
  | _, _, .nil => .nil
  | _, _, .cons h r => .cons (Den.mono s h) (DenAll.mono s r)
end
end
mutual
def noD : D → Bool
  | .none => true | .bool _ => true | .int _ => true | .str _ => true
  | .list xs => noDAll xs
  | .tuple xs => noDAll xs
  | .dict _ => false
def noDAll : List D → Bool
  | [] => true
  | x :: xs => noD x && noDAll xs
end
mutual
theorem noD_lay : ∀ {d : D}, d.canLay0 = true → noD d = true
  | .none, _ => rfl
  | .bool _, _ => rfl
  | .int _, _ => rfl
  | .str _, _ => rfl
  | .list xs, h => noDAll_lay (by unfold PyData.canLay0 at h; exact h)
  | .tuple xs, h => noDAll_lay (by unfold PyData.canLay0 at h; exact h)
  | .dict _, h => by unfold PyData.canLay0 at h; cases h
theorem noDAll_lay : ∀ {ds : List D}, PyData.canLayAll0 ds = true → noDAll ds = true
  | [], _ => rfl
  | x :: xs, h => by
    unfold PyData.canLayAll0 at h
    obtain ⟨h1, h2⟩ := Bool.and_eq_true_iff.mp h
    unfold noDAll
    rw [noD_lay h1, noDAll_lay h2]
    rfl
end
theorem noDAll_map {α : Type} {f : α → D} : ∀ {l : List α}, (∀ x ∈ l, noD (f x) = true) → noDAll (l.map f) = true
  | [], _ => rfl
  | x :: l, h => by
    rw [List.map_cons]
    unfold noDAll
    rw [h x (.head _), noDAll_map fun y hy => h y (.tail _ hy)]
    rfl
theorem noD_strs (l : List Str) : noDAll (l.map .str) = true := noDAll_map fun _ _ => rfl
theorem noD_ints (l : List Int) : noDAll (l.map .int) = true := noDAll_map fun _ _ => rfl
section
variable {K : PySem.W.Frag} {G G' : Hp}
mutual
theorem Den.dp : ∀ {v : V} {d : D}, Den K G v d → noD d = true → Dp K G v d
  | _, _, .non, _ => .non
  | _, _, .bl b, _ => .bl b
  | _, _, .int i, _ => .int i
  | _, _, .str x h o, _ => .str x
  | _, _, .lst e z r, h => .lst (SqL.of e) (DenAll.dp r (by unfold noD at h; exact h))
  | _, _, .tup e z r, h => .tup e.sq (DenAll.dp r (by unfold noD at h; exact h))
  | _, _, .emp _, h => by cases h
  | _, _, .dct _ _ _, h => by cases h
  | _, _, .obj _ _ _, h => by cases h
theorem DenAll.dp : ∀ {vs : List V} {ds : List D}, DenAll K G vs ds → noDAll ds = true → DpAll K G vs ds
  | _, _, .nil, _ => .nil
  | _, _, .cons h r, e => by
    unfold noDAll at e
    obtain ⟨e1, e2⟩ := Bool.and_eq_true_iff.mp e
    exact .cons (Den.dp h e1) (DenAll.dp r e2)
end
theorem DenAll.length : ∀ {vs : List V} {ds : List D}, DenAll K G vs ds → vs.length = ds.length
  | _, _, .nil => rfl
  | _, _, .cons _ r => congrArg (· + 1) (DenAll.length r)
theorem DenAll.get : ∀ {vs : List V} {ds : List D} {i : Nat} {d : D}, DenAll K G vs ds → ds[i]? = some d → ∃ v, vs[i]? = some v ∧ Den K G v d
  | _, _, _, _, .nil, e => by simp at e
  | _, _, 0, _, .cons h _, e => by simp at e; subst e; exact ⟨_, rfl, h⟩
  | _, _, i + 1, _, .cons _ r, e => by
    obtain ⟨v, h1, h2⟩ := DenAll.get (i := i) r (by simpa using e)
    exact ⟨v, by simpa using h1, h2⟩
theorem DenAll.getV : ∀ {vs : List V} {ds : List D} {i : Nat} {v : V}, DenAll K G vs ds → vs[i]? = some v → ∃ d, ds[i]? = some d ∧ Den K G v d
  | _, _, _, _, .nil, e => by simp at e
  | _, _, 0, _, .cons h _, e => by simp at e; subst e; exact ⟨_, rfl, h⟩
  | _, _, i + 1, _, .cons _ r, e => by
    obtain ⟨v, h1, h2⟩ := DenAll.getV (i := i) r (by simpa using e)
    exact ⟨v, by simpa using h1, h2⟩
theorem DenAll.append : ∀ {vs ws : List V} {ds es : List D}, DenAll K G vs ds → DenAll K G ws es → DenAll K G (vs ++ ws) (ds ++ es)
  | _, _, _, _, .nil, s => s
  | _, _, _, _, .cons h r, s => .cons h (DenAll.append r s)
theorem DenAll.take : ∀ {vs : List V} {ds : List D} (n : Nat), DenAll K G vs ds → DenAll K G (vs.take n) (ds.take n)
  | _, _, 0, _ => by simp only [List.take_zero]; exact .nil
  | _, _, _ + 1, .nil => by simp only [List.take_nil]; exact .nil
  | _, _, n + 1, .cons h r => .cons h (DenAll.take n r)
theorem DenAll.drop : ∀ {vs : List V} {ds : List D} (n : Nat), DenAll K G vs ds → DenAll K G (vs.drop n) (ds.drop n)
  | _, _, 0, r => by simpa using r
  | _, _, _ + 1, .nil => by simp only [List.drop_nil]; exact .nil
  | _, _, n + 1, .cons _ r => by simpa using DenAll.drop n r
theorem DenAll.set {v : V} {d : D} (h : Den K G v d) : ∀ {vs : List V} {ds : List D} (i : Nat), DenAll K G vs ds → DenAll K G (vs.set i v) (ds.set i d)
  | _, _, _, .nil => .nil
  | _, _, 0, .cons _ r => .cons h r
  | _, _, i + 1, .cons q r => .cons q (DenAll.set h i r)
theorem Den.at_new {p : Addr} {o : HO} {v : V} {d : D} (h : Den K G v d) (hn : G p = none) : Den K (upd G p o) v d := h.mono fun b u e => by rw [upd_ne (ne_of_none e hn)]; exact e
end
class TabL where
  T : List (Addr × Str)
def NT (o : HO) : Prop := (∀ ps, o ≠ .tbl ps) ∧ ∀ f, o ≠ .ext f
theorem nt_lst {vs : List V} : NT (.lst vs) := ⟨nofun, nofun⟩
theorem nt_dK {xs : List (Key × V)} : NT (.dK xs) := ⟨nofun, nofun⟩
theorem nt_ins {C dx : Addr} {fs : List (Str × V)} : NT (.ins C dx fs) := ⟨nofun, nofun⟩
def Kp (o : HO) (x : Option HO) : Prop := x = some o ∨ ∃ ps qs, o = .tbl ps ∧ x = some (.tbl qs)
theorem Kp.nt {o : HO} {x : Option HO} (k : Kp o x) (n : NT o := by exact ⟨nofun, nofun⟩) : x = some o := by
  rcases k with h | ⟨ps, qs, e, _⟩
  · exact h
  · exact absurd e (n.1 ps)
theorem Kp.ne {o : HO} {x : Option HO} (k : Kp o x) : x ≠ none := by
  rcases k with h | ⟨ps, qs, e, h⟩ <;> rw [h] <;> simp
theorem Kp.trans {o : HO} {x y : Option HO} (a : Kp o x) (b : ∀ u, x = some u → Kp u y) : Kp o y := by
  rcases a with h | ⟨ps, qs, e, h⟩
  · exact b o h
  · rcases b _ h with h2 | ⟨ps2, qs2, e2, h2⟩
    · exact .inr ⟨ps, qs, e, h2⟩
    · exact .inr ⟨ps, qs2, e, h2⟩
def Ext (H H' : Hp) : Prop := ∀ b o, H b = some o → Kp o (H' b)
theorem Ext.refl (H : Hp) : Ext H H := fun _ _ h => .inl h
theorem Ext.trans {H H1 H2 : Hp} (a : Ext H H1) (b : Ext H1 H2) : Ext H H2 := fun c o h => (a c o h).trans fun u e => b c u e
theorem Ext.free {H H' : Hp} (e : Ext H H') {l : Addr} (h : H' l = none) : H l = none := by
  cases q : H l with
  | none => rfl
  | some o => exact absurd h (e l o q).ne
theorem Ext.of {H H' : Hp} (e : Same H H') : Ext H H' := fun b o h => .inl (e b o h)
theorem Ext.nt {H H' : Hp} (e : Ext H H') {b : Addr} {o : HO} (h : H b = some o) (n : NT o := by exact ⟨nofun, nofun⟩) : H' b = some o := (e b o h).nt n
theorem tabs_keep {T : List (Addr × Str)} {H H' : Hp} (t : LamX.Tabs T H) (k : ∀ b o, H b = some o → ¬ NT o → H' b = some o) : LamX.Tabs T H' := fun p hp => by
  obtain ⟨ps, h1, h2, h3⟩ := t p hp
  refine ⟨ps, k _ _ h1 (fun n => n.1 ps rfl), h2, fun pos cv hc => ?_⟩
  obtain ⟨c, e1, e2⟩ := h3 pos cv hc
  exact ⟨c, e1, k _ _ e2 fun n => n.2 _ rfl⟩
structure Sub [TabL] (G H : Hp) : Prop where
  same : Same G H
  tab : LamX.Tabs TabL.T H
  ng : ∀ b o, G b = some o → ∀ ps, o ≠ .tbl ps
instance [TabL] (G H : Hp) : Coe (Sub G H) (Same G H) := ⟨Sub.same⟩
instance [TabL] (G H : Hp) : CoeFun (Sub G H) (fun _ => ∀ b o, G b = some o → H b = some o) := ⟨Sub.same⟩
section
variable [TabL] {G H H' : Hp}
theorem Sub.free (e : Sub G H) {l : Addr} (h : H l = none) : G l = none := e.same.free h
theorem Sub.new {p : Addr} {o : HO} (s : Sub G H) (hp : H p = none) : Sub G (upd H p o) := ⟨fun b u e => by rw [upd_ne (ne_of_none (s b u e) hp)]; exact s b u e, tabs_keep s.tab fun b u e _ => by rw [upd_ne (ne_of_none e hp)]; exact e, s.ng⟩
theorem Sub.put {p : Addr} {u o : HO} (s : Sub G H) (hg : G p = none) (hp : H p = some u) (n : NT u := by exact ⟨nofun, nofun⟩) : Sub G (upd H p o) := ⟨fun b u e => by rw [upd_ne (ne_of_none e hg)]; exact s b u e, tabs_keep s.tab fun b v e hv => by
  rw [upd_ne fun z => hv (by rw [z, hp] at e; cases e; exact n)]
  exact e, s.ng⟩
theorem Sub.frz {p : Addr} {o : HO} (s : Sub G H) (h : H p = some o) (n : NT o := by exact ⟨nofun, nofun⟩) : Sub (upd G p o) H := ⟨fun b u e => by
  by_cases hb : b = p
  · subst hb; rw [upd_same] at e; cases e; exact h
  · rw [upd_ne hb] at e; exact s b u e, s.tab, fun b u e => by
  by_cases hb : b = p
  · subst hb; rw [upd_same] at e; cases e; exact n.1
  · rw [upd_ne hb] at e; exact s.ng b u e⟩
theorem subT {G1 : Hp} (s : Same G1 G) (u : Sub G H) : Sub G1 H := ⟨s.trans u.same, u.tab, fun b o e => u.ng b o (s _ _ e)⟩
theorem Sub.seq {K : PySem.W.Frag} {a : Addr} {xs : List V} (e : Sub G H) (h : SqL K G a xs) : SqL K H a xs := e.same.seq h
end
variable {TBL : TabL}
structure Gr [TabL] (G H G' H' : Hp) : Prop where
  keep : Same G G'
  sub : Sub G' H'
  all : Ext H H'
  new : ∀ b, G' b ≠ none → G b ≠ none ∨ H b = none
theorem Gr.refl {G H : Hp} (s : Sub G H) : Gr G H G H := ⟨Same.refl _, s, Ext.refl _, fun _ h => .inl h⟩
theorem Gr.trans {G H G1 H1 G2 H2 : Hp} (a : Gr G H G1 H1) (b : Gr G1 H1 G2 H2) : Gr G H G2 H2 := ⟨a.keep.trans b.keep, b.sub, a.all.trans b.all, fun c h => by
  rcases b.new c h with h1 | h1
  · exact a.new c h1
  · exact .inr (a.all.free h1)⟩
theorem Gr.upd {G H : Hp} {p : Addr} {o : HO} (s : Sub G H) (hp : H p = none) (n : NT o := by exact ⟨nofun, nofun⟩) : Gr G H (L2.upd G p o) (L2.upd H p o) := by
  have hg : G p = none := s.free hp
  refine ⟨fun b u e => ?_, (s.new hp).frz upd_same n, .of fun b u e => ?_, fun b h => ?_⟩
  · rw [upd_ne (ne_of_none e hg)]; exact e
  · rw [upd_ne (ne_of_none e hp)]; exact e
  · by_cases hb : b = p
    · subst hb; exact .inr hp
    · rw [upd_ne hb] at h; exact .inl h
theorem Gr.own {G H : Hp} {p : Addr} {o : HO} (s : Sub G H) (hp : H p = none) : Gr G H G (L2.upd H p o) := by
  refine ⟨Same.refl _, s.new hp, .of fun b u e => ?_, fun b h => .inl h⟩
  rw [upd_ne (ne_of_none e hp)]; exact e
theorem Gr.freeze {G H G' H' : Hp} {p : Addr} {o : HO} (g : Gr G H G' H') (h1 : G' p = none) (h2 : H p = none) (h3 : H' p = some o) (n : NT o := by exact ⟨nofun, nofun⟩) : Gr G H (L2.upd G' p o) H' := by
  refine ⟨fun b u e => ?_, g.sub.frz h3 n, g.all, fun b h => ?_⟩
  · have e' := g.keep b u e
    rw [upd_ne (ne_of_none e' h1)]; exact e'
  · by_cases hb : b = p
    · subst hb; exact .inr h2
    · rw [upd_ne hb] at h; exact g.new b h
inductive KVsD (K : PySem.W.Frag) (G : Hp) : List (Key × V) → List (Key × D) → Prop
  | nil : KVsD K G [] []
  | cons {k : Key} {v : V} {d : D} {r : List (Key × V)} {s : List (Key × D)} : Den K G (kV k) (kD k) → Den K G v d → KVsD K G r s → KVsD K G ((k, v) :: r) ((k, d) :: s)
theorem KVsD.mono {K : PySem.W.Frag} {G G' : Hp} (s : Same G G') : ∀ {xs : List (Key × V)} {kvs : List (Key × D)}, KVsD K G xs kvs → KVsD K G' xs kvs
  | _, _, .nil => .nil
  | _, _, .cons a b r => .cons (a.mono s) (b.mono s) (KVsD.mono s r)
def SameX (G G' : Hp) : Prop := ∀ b o, G b = some o → (∀ od xs, o ≠ .frz od (.dK xs)) → G' b = some o
theorem nx_l {vs : List V} : ∀ od xs, HO.lst vs ≠ .frz od (.dK xs) := by intro _ _ y; cases y
theorem nx_t {o : Obj} {vs : List V} : ∀ od xs, HO.frz o (.tup vs) ≠ .frz od (.dK xs) := by intro _ _ y; cases y
theorem nx_d {ys : List (Key × V)} : ∀ od xs, HO.dK ys ≠ .frz od (.dK xs) := by intro _ _ y; cases y
theorem nx_i {C dx : Addr} {fs : List (Str × V)} : ∀ od xs, HO.ins C dx fs ≠ .frz od (.dK xs) := by intro _ _ y; cases y
section
variable {K : PySem.W.Frag} {G G' H H' : Hp}
mutual
theorem Den.off (s : SameX G G') : ∀ {v : V} {d : D}, Den K G v d → Den K G' v d
  | _, _, .non => .non
  | _, _, .bl b => .bl b
  | _, _, .int i => .int i
  | _, _, .str x h o => .str x h o
  | _, _, .lst e z r => .lst (s _ _ e nx_l) z (DenAll.off s r)
  | _, _, .tup q z r => .tup (q.keep fun o e => s _ _ e nx_t) z (DenAll.off s r)
  | _, _, .emp e => .emp (s _ _ e nx_d)
  | _, _, .dct e z r => .dct (s _ _ e nx_d) z (DenKV.off s r)
  | _, _, .obj e n r => .obj (s _ _ e nx_i) n (DenFs.off s r)
theorem DenKV.off (s : SameX G G') : ∀ {vs : List (Key × V)} {ds : List (D × D)}, DenKV K G vs ds → DenKV K G' vs ds
  | _, _, .nil => .nil
  | _, _, .cons k h r => .cons (Den.off s k) (Den.off s h) (DenKV.off s r)
theorem DenAll.off (s : SameX G G') : ∀ {vs : List V} {ds : List D}, DenAll K G vs ds → DenAll K G' vs ds
  | _, _, .nil => .nil
  | _, _, .cons h r => .cons (Den.off s h) (DenAll.off s r)
theorem DenFs.off (s : SameX G G') : ∀ {vs : List (Str × V)} {ds : List (D × D)}, DenFs K G vs ds → DenFs K G' vs ds
  | _, _, .nil => .nil
  | _, _, .cons h r => .cons (Den.off s h) (DenFs.off s r)
end
theorem KVsD.off (s : SameX G G') : ∀ {xs : List (Key × V)} {kvs : List (Key × D)}, KVsD K G xs kvs → KVsD K G' xs kvs
  | _, _, .nil => .nil
  | _, _, .cons a b r => .cons (a.off s) (b.off s) (KVsD.off s r)
end
theorem SameX.of {G G' : Hp} (s : Same G G') : SameX G G' := fun b o e _ => s b o e
theorem KVsD.length {K : PySem.W.Frag} {G : Hp} : ∀ {xs : List (Key × V)} {kvs : List (Key × D)}, KVsD K G xs kvs → xs.length = kvs.length
  | _, _, .nil => rfl
  | _, _, .cons _ _ r => congrArg (· + 1) (KVsD.length r)
inductive FV where
  | d (x : D) | l (xs : List D) | k (kvs : List (Key × D))
def encKs (kvs : List (Key × D)) : List (D × D) := kvs.map fun p => (kD p.1, p.2)
def fvD : FV → D
  | .d x => x
  | .l xs => .list xs
  | .k kvs => .dict ((.none, .bool true) :: encKs kvs)
def fsD (fs : List (Str × FV)) : List (D × D) := fs.map fun p => (.str p.1, fvD p.2)
def objD (x : Str) (fs : List (Str × FV)) : D := .dict ((.none, .str x) :: fsD fs)
inductive MO (S : Type) where
  | d (x : D) | lst (xs : List D) | st (s : S) | scr (ns : List Int) | dic (kvs : List (Key × D)) | lk (kvs : List (Key × D)) | dp (x : D) | obj (x : Str) (fs : List (Str × FV))
abbrev DS (S : Type) := List (Option (MO S))
def ViewAt (K : PySem.W.Frag) (G : Hp) {S : Type} (v : V) : MO S → Prop
  | .d x => Den K G v x
  | .lst xs => Den K G v (.list xs)
  | .st _ => True
  | .scr ns => ∃ a, v = .ref a ∧ SqL K G a (ns.map V.int)
  | .dic kvs => ∃ a xs, v = .ref a ∧ G a = some (.dK xs) ∧ KVsD K G xs kvs
  | .lk kvs => ∃ a o xs, v = .ref a ∧ G a = some (.frz o (.dK xs)) ∧ xs.length ≤ sizeLine ∧ KVsD K G xs kvs
  | .dp _ => True
  | .obj x fs => Den K G v (objD x fs)
structure View (K : PySem.W.Frag) (G : Hp) {S : Type} (σ : L2.St) (ds : DS S) : Prop where
  len : ds.length = σ.length
  has : ∀ (i : Nat) (m : MO S), ds[i]? = some (some m) → ∃ v, σ[i]? = some (some v) ∧ ViewAt K G v m
theorem sql_mono {K : PySem.W.Frag} {G G' : Hp} {a : Addr} {xs : List V} (s : Same G G') (h : SqL K G a xs) : SqL K G' a xs := s.seq h
theorem sqt_mono {K : PySem.W.Frag} {G G' : Hp} {a : Addr} {xs : List V} (s : Same G G') (h : SqT K G a xs) : SqT K G' a xs := by
  rcases h with (h | ⟨o, h⟩) | h
  · exact .inl (.inl (s _ _ h))
  · exact .inl (.inr ⟨o, s _ _ h⟩)
  · exact .inr h
theorem rd_mono {G G' : Hp} {a : Addr} {u : HO} (s : Same G G') (h : Rd G a u) : Rd G' a u := by
  rcases h with h | ⟨o, h⟩
  · exact .inl (s _ _ h)
  · exact .inr ⟨o, s _ _ h⟩
theorem ViewAt.mono {K : PySem.W.Frag} {G G' : Hp} {S : Type} {v : V} {m : MO S} (s : Same G G') (h : ViewAt K G v m) : ViewAt K G' v m := by
  cases m with
  | d x => exact Den.mono s h
  | lst xs => exact Den.mono s h
  | st _ => trivial
  | scr ns => obtain ⟨a, e, h⟩ := h; exact ⟨a, e, sql_mono s h⟩
  | dic kvs => obtain ⟨a, xs, e, q, h⟩ := h; exact ⟨a, xs, e, s _ _ q, h.mono s⟩
  | lk kvs => obtain ⟨a, o, xs, e, q, z, h⟩ := h; exact ⟨a, o, xs, e, s _ _ q, z, h.mono s⟩
  | dp _ => trivial
  | obj x fs => exact Den.mono s h
theorem View.mono {K : PySem.W.Frag} {G G' : Hp} {S : Type} {σ : L2.St} {ds : DS S} (s : Same G G') (h : View K G σ ds) : View K G' σ ds := ⟨h.len, fun i m e => by
  obtain ⟨v, h1, h2⟩ := h.has i m e
  exact ⟨v, h1, h2.mono s⟩⟩
section
variable {S : Type}
def tP [TabL] (K : PySem.W.Frag) (g : DS S → Option D) : TE := fun σ H Q => ∃ G ds d, Sub G H ∧ View K G σ ds ∧ g ds = some d ∧ ∀ v G' H', Gr G H G' H' → Den K G' v d → Q v H'
def tF [TabL] (K : PySem.W.Frag) (g : DS S → Option (List D)) : TE := fun σ H Q => ∃ G ds xs, Sub G H ∧ View K G σ ds ∧ g ds = some xs ∧
  ∀ p vs G' H', Gr G H G' H' → G' p = none → H p = none → H' p = some (.lst vs) → vs.length ≤ sizeLine → DenAll K G' vs xs → Q (.ref p) H'
def tPT [TabL] (K : PySem.W.Frag) (g : DS S → Option Bool) : TT := fun σ H Q => ∃ G ds b, Sub G H ∧ View K G σ ds ∧ g ds = some b ∧ ∀ G' H', Gr G H G' H' → Q b H'
def tPA [TabL] (K : PySem.W.Frag) (g : DS S → Option (List D)) : TA := fun σ H Q => ∃ G ds xs, Sub G H ∧ View K G σ ds ∧ g ds = some xs ∧ ∀ vs G' H', Gr G H G' H' → DenAll K G' vs xs → Q vs H'
end
theorem PE.imp {X : Cx} {e : Expr} {t t' : TE} (h : PE X e t) (i : ∀ σ H Q, t' σ H Q → t σ H Q) : PE X e t' := ⟨fun pins s σ H Q I q => h.run pins s σ H Q I (i σ H Q q)⟩
theorem PT.imp {X : Cx} {e : Expr} {t t' : TT} (h : PT X e t) (i : ∀ σ H Q, t' σ H Q → t σ H Q) : PT X e t' := ⟨fun pins s σ H Q I q => h.run pins s σ H Q I (i σ H Q q)⟩
theorem PW.imp {X : Cx} {e : Expr} {t t' : TT} (h : PW X e t) (i : ∀ σ H Q, t' σ H Q → t σ H Q) : PW X e t' := ⟨fun wh pins s σ H Q I q => h.run wh pins s σ H Q I (i σ H Q q)⟩
theorem PTs.imp {X : Cx} {e : List Expr} {t t' : TT} (h : PTs X e t) (i : ∀ σ H Q, t' σ H Q → t σ H Q) : PTs X e t' := ⟨fun pins s σ H Q I q => h.run pins s σ H Q I (i σ H Q q)⟩
theorem PA.imp {X : Cx} {e : List Expr} {t t' : TA} (h : PA X e t) (i : ∀ σ H Q, t' σ H Q → t σ H Q) : PA X e t' := ⟨fun pos pins s σ H Q I q => h.run pos pins s σ H Q I (i σ H Q q)⟩
theorem PS.imp {X : Cx} {e : Stmt} {t t' : TS} (h : PS X e t) (i : ∀ D σ H, t' D σ H → t D σ H) : PS X e t' := ⟨fun pins s σ H D I q => h.run pins s σ H D I (i D σ H q)⟩
theorem PSs.imp {X : Cx} {e : List Stmt} {t t' : TS} (h : PSs X e t) (i : ∀ D σ H, t' D σ H → t D σ H) : PSs X e t' := ⟨fun pins s σ H D I q => h.run pins s σ H D I (i D σ H q)⟩
section
variable {S : Type} {X : Cx} {a b c e : Expr} {es : List Expr} {ga gb gc : DS S → Option D} {pos : Pos}
def gVar (i : Nat) : DS S → Option D := fun ds => match ds[i]? with
  | some (some (.d x)) => some x
  | some (some (.lst xs)) => some (.list xs)
  | some (some (.obj x fs)) => some (objD x fs)
  | _ => none
theorem ep_var {i : Nat} (h : PE X e (tVar i)) : PE X e (tP X.K (gVar (S := S) i)) := PE.imp h fun σ H Q ⟨G, ds, d, s, w, e, k⟩ => by
  unfold gVar at e
  split at e
  · rename_i x q
    cases e
    obtain ⟨v, h1, h2⟩ := w.has i _ q
    exact ⟨v, h1, k v G H (.refl s) h2⟩
  · rename_i x q
    cases e
    obtain ⟨v, h1, h2⟩ := w.has i _ q
    exact ⟨v, h1, k v G H (.refl s) h2⟩
  · rename_i x q
    cases e
    obtain ⟨v, h1, h2⟩ := w.has i _ q
    exact ⟨v, h1, k v G H (.refl s) h2⟩
  · cases e
def gC (d : D) : DS S → Option D := fun _ => some d
theorem ep_c {v : V} {d : D} (h : PE X e (tC v)) (r : ∀ G, Den X.K G v d) : PE X e (tP X.K (gC (S := S) d)) := PE.imp h fun σ H Q ⟨G, ds, d, s, w, e, k⟩ => by
  cases e
  exact k v G H (.refl s) (r G)
theorem ep_int {i : Int} {j pos} : PE X (.Constant (.int i) j pos) (tP X.K (gC (S := S) (.int i))) := ep_c pe_int fun _ => .int i
theorem ep_bl {b : Bool} {j pos} : PE X (.Constant (.bool b) j pos) (tP X.K (gC (S := S) (.bool b))) := ep_c pe_bl fun _ => .bl b
theorem ep_non {j pos} : PE X (.Constant .none j pos) (tP X.K (gC (S := S) .none)) := ep_c pe_non fun _ => .non
theorem ep_str {x : Str} {j pos} (h : x.length ≤ sizeLine := by decide +kernel) (o : PyData.strOk x = true := by decide +kernel) : PE X (.Constant (.str x) j pos) (tP X.K (gC (S := S) (.str x))) := ep_c pe_str fun _ => .str x h o
def R2D [TabL] (K : PySem.W.Frag) (r : R2) (g : D → D → Option D) : Prop := ∀ x y dx dy d G H (Q : VK), Sub G H → Den K G x dx → Den K G y dy → g dx dy = some d → (∀ v G' H', Gr G H G' H' → Den K G' v d → Q v H') → r x y H Q
def R2F [TabL] (K : PySem.W.Frag) (r : R2) (g : D → D → Option (List D)) : Prop := ∀ x y dx dy xs G H (Q : VK), Sub G H → Den K G x dx → Den K G y dy → g dx dy = some xs →
  (∀ p vs G' H', Gr G H G' H' → G' p = none → H p = none → H' p = some (.lst vs) → vs.length ≤ sizeLine → DenAll K G' vs xs → Q (.ref p) H') → r x y H Q
def gOp (g : D → D → Option D) (ga gb : DS S → Option D) : DS S → Option D := fun ds => (ga ds).bind fun x => (gb ds).bind fun y => g x y
theorem p_op {r : R2} {g : D → D → Option D} (hr : R2D X.K r g) {σ : L2.St} {H : Hp} {Q : VK} (h : tP X.K (gOp g ga gb) σ H Q) : tOp r (tP X.K ga) (tP X.K gb) σ H Q := by
  obtain ⟨G, ds, d, s, w, e, k⟩ := h
  unfold gOp at e
  cases ea : ga ds with
  | none => rw [ea] at e; cases e
  | some x =>
    rw [ea] at e
    cases eb : gb ds with
    | none => simp [eb] at e
    | some y =>
      simp only [eb, Option.bind_some] at e
      refine ⟨G, ds, x, s, w, ea, fun v G1 H1 g1 d1 => ?_⟩
      refine ⟨G1, ds, y, g1.sub, w.mono g1.keep, eb, fun u G2 H2 g2 d2 => ?_⟩
      exact hr v u x y d G2 H2 Q g2.sub (d1.mono g2.keep) d2 e fun z G3 H3 g3 d3 => k z G3 H3 ((g1.trans g2).trans g3) d3
theorem ep_bin {op : Operator} {r : R2} {g : D → D → Option D} (ho : OpR X (binaryOp op) r) (hr : R2D X.K r g) (ha : PE X a (tP X.K ga)) (hb : PE X b (tP X.K gb)) : PE X (.BinOp a op b pos) (tP X.K (gOp g ga gb)) :=
  PE.imp (pe_op ho ha hb) fun _ _ _ h => p_op hr h
theorem ep_cmp {op : CmpOp} {r : R2} {g : D → D → Option D} (ho : OpR X (compareOp op) r) (hr : R2D X.K r g) (ha : PE X a (tP X.K ga)) (hb : PE X b (tP X.K gb)) (hm : behindInMarks op b = false) : PE X (.Compare a [op] [b] pos) (tP X.K (gOp g ga gb)) :=
  PE.imp (pe_cmpR ho ha hb hm) fun _ _ _ h => p_op hr h
theorem ep_ix {r : R2} {g : D → D → Option D} (ho : IxR X r) (hr : R2D X.K r g) (ha : PE X a (tP X.K ga)) (hb : PE X b (tP X.K gb)) (hs : PlainIx b) : PE X (.Subscript a b pos) (tP X.K (gOp g ga gb)) :=
  PE.imp (pe_ix ho ha hb hs) fun _ _ _ h => p_op hr h
def gOpF (g : D → D → Option (List D)) (ga gb : DS S → Option D) : DS S → Option (List D) := fun ds => (ga ds).bind fun x => (gb ds).bind fun y => g x y
def gL (g : DS S → Option (List D)) : DS S → Option D := fun ds => (g ds).map .list
theorem ep_f {g : DS S → Option (List D)} (h : PE X e (tF X.K g)) : PE X e (tP X.K (gL g)) := PE.imp h fun σ H Q ⟨G, ds, d, s, w, e, k⟩ => by
  unfold gL at e
  cases eg : g ds with
  | none => rw [eg] at e; cases e
  | some xs =>
    rw [eg] at e
    cases e
    refine ⟨G, ds, xs, s, w, eg, fun p vs G' H' g h1 h2 h3 z d => ?_⟩
    refine k (.ref p) (upd G' p (.lst vs)) H' (g.freeze h1 h2 h3) (.lst upd_same z (d.mono fun b u e => ?_))
    rw [upd_ne (ne_of_none e h1)]; exact e
def R1D [TabL] (K : PySem.W.Frag) (r : V → Hp → VK → Prop) (g : D → Option D) : Prop := ∀ x dx d G H (Q : VK), Sub G H → Den K G x dx → g dx = some d → (∀ v G' H', Gr G H G' H' → Den K G' v d → Q v H') → r x H Q
def gUn (g : D → Option D) (ga : DS S → Option D) : DS S → Option D := fun ds => (ga ds).bind g
theorem ep_un {op : UnaryOp} {r : V → Hp → VK → Prop} {g : D → Option D} (ho : UnR X (unaryOp op) r) (hr : R1D X.K r g) (ha : PE X a (tP X.K ga)) : PE X (.UnaryOp op a pos) (tP X.K (gUn g ga)) :=
  PE.imp (pe_un ho ha) fun σ H Q ⟨G, ds, d, s, w, e, k⟩ => by
    unfold gUn at e
    cases ea : ga ds with
    | none => rw [ea] at e; cases e
    | some x =>
      rw [ea] at e
      refine ⟨G, ds, x, s, w, ea, fun v G1 H1 g1 d1 => ?_⟩
      exact hr v x d G1 H1 Q g1.sub d1 e fun z G3 H3 g3 d3 => k z G3 H3 (g1.trans g3) d3
def gNil : DS S → Option (List D) := fun _ => some []
def gCons (g : DS S → Option D) (r : DS S → Option (List D)) : DS S → Option (List D) := fun ds => (g ds).bind fun x => (r ds).bind fun xs => some (x :: xs)
theorem ap_nil : PA X [] (tPA X.K (gNil (S := S))) := PA.imp pa_nil fun σ H Q ⟨G, ds, d, s, w, e, k⟩ => by
  cases e
  exact k [] G H (.refl s) .nil
theorem ap_cons {gr : DS S → Option (List D)} (ha : PE X e (tP X.K ga)) (hr : PA X es (tPA X.K gr)) (hs : starEach (e :: es) X.env = (false, eval e X.env) :: starEach es X.env := by rfl) : PA X (e :: es) (tPA X.K (gCons ga gr)) :=
  PA.imp (pa_cons ha hr hs) fun σ H Q ⟨G, ds, d, s, w, e, k⟩ => by
    unfold gCons at e
    cases ea : ga ds with
    | none => rw [ea] at e; cases e
    | some x =>
      rw [ea] at e
      cases eb : gr ds with
      | none => simp [eb] at e
      | some xs =>
        simp only [eb, Option.bind_some] at e
        cases e
        refine ⟨G, ds, x, s, w, ea, fun v G1 H1 g1 d1 => ?_⟩
        exact ⟨G1, ds, xs, g1.sub, w.mono g1.keep, eb, fun vs G2 H2 g2 d2 => k (v :: vs) G2 H2 (g1.trans g2) (.cons (d1.mono g2.keep) d2)⟩
def gTup (g : DS S → Option (List D)) : DS S → Option D := fun ds => (g ds).bind fun xs => if xs.length ≤ sizeLine then some (.tuple xs) else none
theorem ep_tup {g : DS S → Option (List D)} {x1} (h : PA X es (tPA X.K g)) : PE X (.Tuple es x1 pos) (tP X.K (gTup g)) := PE.imp (pe_tupF h) fun σ H Q ⟨G, ds, d, s, w, e, k⟩ => by
  unfold gTup at e
  cases eg : g ds with
  | none => rw [eg] at e; cases e
  | some xs =>
    simp only [eg, Option.bind_some] at e
    split at e
    · cases e
      rename_i hz
      refine ⟨G, ds, xs, s, w, eg, fun vs G1 H1 g1 d1 => ⟨by rw [d1.length]; exact hz, fun p o dn hp => ?_⟩⟩
      have hg := g1.sub.free hp
      exact k (.ref p) (upd G1 p (.frz o (.tup vs))) _ (g1.trans (.upd g1.sub hp)) (.tup (PqT.new dn) (by rw [d1.length]; exact hz) (d1.mono fun b u e => by rw [upd_ne (ne_of_none e hg)]; exact e))
    · cases e
def gLst (g : DS S → Option (List D)) : DS S → Option (List D) := fun ds => (g ds).bind fun xs => if xs.length ≤ sizeLine then some xs else none
theorem ef_lst {g : DS S → Option (List D)} (h : PA X es (tPA X.K g)) : PE X (.List es pos) (tF X.K (gLst g)) := PE.imp (pe_lst h) fun σ H Q ⟨G, ds, d, s, w, e, k⟩ => by
  unfold gLst at e
  cases eg : g ds with
  | none => rw [eg] at e; cases e
  | some xs =>
    simp only [eg, Option.bind_some] at e
    split at e
    · cases e
      rename_i hz
      refine ⟨G, ds, _, s, w, eg, fun vs G1 H1 g1 d1 => ⟨by rw [d1.length]; exact hz, fun p hp => ?_⟩⟩
      exact k p vs G1 (upd H1 p (.lst vs)) (g1.trans (.own g1.sub hp)) (g1.sub.free hp) (g1.all.free hp) upd_same (by rw [d1.length]; exact hz) d1
    · cases e
def truD : D → Option Bool
  | .none => some false
  | .bool b => some b
  | .int i => some (i != 0)
  | .str x => some ((x.length : Int) != 0)
  | .list xs => some (!xs.isEmpty)
  | .tuple xs => some (!xs.isEmpty)
  | .dict _ => none
theorem isEmpty_den {K : PySem.W.Frag} {G : Hp} {vs : List V} {ds : List D} (h : DenAll K G vs ds) : vs.isEmpty = ds.isEmpty := by cases h <;> rfl
theorem truD_ok {K : PySem.W.Frag} {G H : Hp} {v : V} {d : D} {k : Bool} (s : Sub G H) (h : Den K G v d) (e : truD d = some k) : TruV K v H k := by
  cases h with
  | non => cases e; rfl
  | bl b => cases e; rfl
  | int i => cases e; rfl
  | str x hx ho => cases e; exact ⟨hx, rfl⟩
  | lst q z r => cases e; exact .inl ⟨_, SqL.of (s _ _ q), by rw [isEmpty_den r]⟩
  | tup q z r => cases e; exact .inr (.inl ⟨_, sqt_mono s q.sq, by rw [isEmpty_den r]⟩)
  | emp q => cases e
  | dct _ _ _ => cases e
  | obj _ _ _ => cases e
def gTr (g : DS S → Option D) : DS S → Option Bool := fun ds => (g ds).bind truD
theorem p_tr {σ : L2.St} {H : Hp} {Q : Bool → Hp → Prop} (h : tPT X.K (gTr ga) σ H Q) : tP X.K ga σ H fun x H' => ∃ k, TruV X.K x H' k ∧ Q k H' := by
  obtain ⟨G, ds, b, s, w, e, k⟩ := h
  unfold gTr at e
  cases ea : ga ds with
  | none => rw [ea] at e; cases e
  | some x =>
    rw [ea] at e
    exact ⟨G, ds, x, s, w, ea, fun v G1 H1 g1 d1 => ⟨b, truD_ok g1.sub d1 e, k G1 H1 g1⟩⟩
theorem tp_tr (ha : PE X a (tP X.K ga)) (he : ∀ whole, isTrue a X.env whole = (do let v ← whole; standAt a.pos; holding [v] (truthy v)) := by intro _; rfl) : PT X a (tPT X.K (gTr ga)) :=
  PT.imp (pt_truth ha he) fun _ _ _ h => p_tr h
def gB (g : DS S → Option D) : DS S → Option Bool := fun ds => match g ds with
  | some (.bool b) => some b
  | _ => none
theorem tp_cmp {op : CmpOp} {r : R2} {g : D → D → Option D} (ho : OpR X (compareOp op) r) (hr : R2D X.K r g) (ha : PE X a (tP X.K ga)) (hb : PE X b (tP X.K gb)) (hm : behindInMarks op b = false) : PT X (.Compare a [op] [b] pos) (tPT X.K (gB (gOp g ga gb))) :=
  PT.imp (pt_cmpR ho ha hb hm) fun σ H Q ⟨G, ds, b, s, w, e, k⟩ => by
    unfold gB at e
    split at e
    · cases e
      rename_i eg
      refine p_op (g := g) hr ⟨G, ds, _, s, w, eg, fun v G1 H1 g1 d1 => ?_⟩
      cases d1
      exact ⟨_, rfl, k G1 H1 g1⟩
    · cases e
def gNot (g : DS S → Option Bool) : DS S → Option Bool := fun ds => (g ds).map (!·)
theorem tp_not {g : DS S → Option Bool} (h : PT X a (tPT X.K g)) : PT X (.UnaryOp .Not a pos) (tPT X.K (gNot g)) := PT.imp (pt_not h) fun σ H Q ⟨G, ds, b, s, w, e, k⟩ => by
  unfold gNot at e
  cases eg : g ds with
  | none => rw [eg] at e; cases e
  | some c =>
    rw [eg] at e
    cases e
    exact ⟨G, ds, c, s, w, eg, fun G1 H1 g1 => k G1 H1 g1⟩
def gAnd (g h : DS S → Option Bool) : DS S → Option Bool := fun ds => (g ds).bind fun b => if b then h ds else some false
def gOr (g h : DS S → Option Bool) : DS S → Option Bool := fun ds => (g ds).bind fun b => if b then some true else h ds
variable {tests : List Expr} {h1 h2 : DS S → Option Bool}
theorem p_and {σ : L2.St} {H : Hp} {Q : Bool → Hp → Prop} (h : tPT X.K (gAnd h1 h2) σ H Q) : tAnd (tPT X.K h1) (tPT X.K h2) σ H Q := by
  obtain ⟨G, ds, b, s, w, e, k⟩ := h
  unfold gAnd at e
  cases e1 : h1 ds with
  | none => rw [e1] at e; cases e
  | some c =>
    rw [e1] at e
    refine ⟨G, ds, c, s, w, e1, fun G1 H1 g1 => ?_⟩
    cases c with
    | true => exact iteT ⟨G1, ds, b, g1.sub, w.mono g1.keep, by simpa using e, fun G2 H2 g2 => k G2 H2 (g1.trans g2)⟩
    | false =>
      have e' : b = false := by simpa using e.symm
      subst e'
      exact iteF (k G1 H1 g1)
theorem p_or {σ : L2.St} {H : Hp} {Q : Bool → Hp → Prop} (h : tPT X.K (gOr h1 h2) σ H Q) : tOr (tPT X.K h1) (tPT X.K h2) σ H Q := by
  obtain ⟨G, ds, b, s, w, e, k⟩ := h
  unfold gOr at e
  cases e1 : h1 ds with
  | none => rw [e1] at e; cases e
  | some c =>
    rw [e1] at e
    refine ⟨G, ds, c, s, w, e1, fun G1 H1 g1 => ?_⟩
    cases c with
    | false => exact iteF ⟨G1, ds, b, g1.sub, w.mono g1.keep, by simpa using e, fun G2 H2 g2 => k G2 H2 (g1.trans g2)⟩
    | true =>
      have e' : b = true := by simpa using e.symm
      subst e'
      exact iteT (k G1 H1 g1)
end
end
section
variable {TBL : TabL}
section
variable {S : Type} {X : Cx} {a b c e : Expr} {es rest : List Expr} {ga gb gc : DS S → Option D} {h1 h2 : DS S → Option Bool} {pos : Pos}
theorem tw_and1 (ha : PT X a (tPT X.K h1)) : PW X (.BoolOp .And [a] pos) (tPT X.K h1) := pw_and1 ha
theorem tw_or1 (ha : PT X a (tPT X.K h1)) : PW X (.BoolOp .Or [a] pos) (tPT X.K h1) := pw_or1 ha
theorem tw_and (ha : PT X a (tPT X.K h1)) (hb : PW X (.BoolOp .And (b :: rest) pos) (tPT X.K h2)) : PW X (.BoolOp .And (a :: b :: rest) pos) (tPT X.K (gAnd h1 h2)) := PW.imp (pw_and ha hb) fun _ _ _ h => p_and h
theorem tw_or (ha : PT X a (tPT X.K h1)) (hb : PW X (.BoolOp .Or (b :: rest) pos) (tPT X.K h2)) : PW X (.BoolOp .Or (a :: b :: rest) pos) (tPT X.K (gOr h1 h2)) := PW.imp (pw_or ha hb) fun _ _ _ h => p_or h
def gOrV (ga gb : DS S → Option D) : DS S → Option D := fun ds => (ga ds).bind fun x => (truD x).bind fun k => if k then some x else gb ds
def gAndV (ga gb : DS S → Option D) : DS S → Option D := fun ds => (ga ds).bind fun x => (truD x).bind fun k => if k then gb ds else some x
def gNotV (ga : DS S → Option D) : DS S → Option D := fun ds => (ga ds).bind fun x => (truD x).map fun k => .bool (!k)
theorem ep_one {op} (h : PE X a (tP X.K ga)) : PE X (.BoolOp op [a] pos) (tP X.K ga) := pe_one h
theorem ep_or (ha : PE X a (tP X.K ga)) (hb : PE X (.BoolOp .Or (b :: rest) pos) (tP X.K gb)) : PE X (.BoolOp .Or (a :: b :: rest) pos) (tP X.K (gOrV ga gb)) := PE.imp (pe_orT ha hb) fun σ H Q ⟨G, ds, d, s, w, e, k⟩ => by
  unfold gOrV at e
  cases ea : ga ds with
  | none => rw [ea] at e; cases e
  | some x =>
    rw [ea] at e
    cases et : truD x with
    | none => simp [et] at e
    | some t =>
      simp only [et, Option.bind_some] at e
      refine ⟨G, ds, x, s, w, ea, fun v G1 H1 g1 d1 => ⟨t, truD_ok g1.sub d1 et, ?_⟩⟩
      cases t with
      | true =>
        have e' : x = d := by simpa using e
        subst e'
        exact iteT (k v G1 H1 g1 d1)
      | false => exact iteF ⟨G1, ds, d, g1.sub, w.mono g1.keep, by simpa using e, fun u G2 H2 g2 d2 => k u G2 H2 (g1.trans g2) d2⟩
theorem ep_and (ha : PE X a (tP X.K ga)) (hb : PE X (.BoolOp .And (b :: rest) pos) (tP X.K gb)) : PE X (.BoolOp .And (a :: b :: rest) pos) (tP X.K (gAndV ga gb)) := PE.imp (pe_andT ha hb) fun σ H Q ⟨G, ds, d, s, w, e, k⟩ => by
  unfold gAndV at e
  cases ea : ga ds with
  | none => rw [ea] at e; cases e
  | some x =>
    rw [ea] at e
    cases et : truD x with
    | none => simp [et] at e
    | some t =>
      simp only [et, Option.bind_some] at e
      refine ⟨G, ds, x, s, w, ea, fun v G1 H1 g1 d1 => ⟨t, truD_ok g1.sub d1 et, ?_⟩⟩
      cases t with
      | false =>
        have e' : x = d := by simpa using e
        subst e'
        exact iteF (k v G1 H1 g1 d1)
      | true => exact iteT ⟨G1, ds, d, g1.sub, w.mono g1.keep, by simpa using e, fun u G2 H2 g2 d2 => k u G2 H2 (g1.trans g2) d2⟩
theorem ep_not (ha : PE X a (tP X.K ga)) : PE X (.UnaryOp .Not a pos) (tP X.K (gNotV ga)) := PE.imp (pe_notT ha) fun σ H Q ⟨G, ds, d, s, w, e, k⟩ => by
  unfold gNotV at e
  cases ea : ga ds with
  | none => rw [ea] at e; cases e
  | some x =>
    rw [ea] at e
    cases et : truD x with
    | none => simp [et] at e
    | some t =>
      simp only [et, Option.map_some, Option.bind_some] at e
      cases e
      exact ⟨G, ds, x, s, w, ea, fun v G1 H1 g1 d1 => ⟨t, truD_ok g1.sub d1 et, k _ G1 H1 g1 (.bl _)⟩⟩
def gIf (h : DS S → Option Bool) (ga gb : DS S → Option D) : DS S → Option D := fun ds => (h ds).bind fun k => if k then ga ds else gb ds
theorem ep_if (hc : PT X c (tPT X.K h1)) (ha : PE X a (tP X.K ga)) (hb : PE X b (tP X.K gb)) : PE X (.IfExp c a b pos) (tP X.K (gIf h1 ga gb)) := PE.imp (pe_ifExp hc ha hb) fun σ H Q ⟨G, ds, d, s, w, e, k⟩ => by
  unfold gIf at e
  cases ea : h1 ds with
  | none => rw [ea] at e; cases e
  | some t =>
    rw [ea] at e
    refine ⟨G, ds, t, s, w, ea, fun G1 H1 g1 => ?_⟩
    cases t with
    | true => exact iteT ⟨G1, ds, d, g1.sub, w.mono g1.keep, by simpa using e, fun u G2 H2 g2 d2 => k u G2 H2 (g1.trans g2) d2⟩
    | false => exact iteF ⟨G1, ds, d, g1.sub, w.mono g1.keep, by simpa using e, fun u G2 H2 g2 d2 => k u G2 H2 (g1.trans g2) d2⟩
def gChain (g g' : D → D → Option D) (ga gb gc : DS S → Option D) : DS S → Option D := fun ds => (ga ds).bind fun x => (gb ds).bind fun y => (g x y).bind fun z => match z with
  | .bool true => (gc ds).bind fun u => g' y u
  | .bool false => some (.bool false)
  | _ => none
theorem ep_chain {op op' : CmpOp} {r r' : R2} {g g' : D → D → Option D} (ho : OpR X (compareOp op) r) (hr : R2D X.K r g) (ho' : OpR X (compareOp op') r') (hr' : R2D X.K r' g') (ha : PE X a (tP X.K ga)) (hb : PE X b (tP X.K gb)) (hc : PE X c (tP X.K gc))
    (hm : lastMarks [op, op'] [b, c] = false := by with_unfolding_all rfl) : PE X (.Compare a [op, op'] [b, c] pos) (tP X.K (gChain g g' ga gb gc)) := PE.imp (pe_chain ho ho' ha hb hc hm) fun σ H Q ⟨G, ds, d, s, w, e, k⟩ => by
  unfold gChain at e
  cases ea : ga ds with
  | none => rw [ea] at e; cases e
  | some x =>
    cases eb : gb ds with
    | none => simp [ea, eb] at e
    | some y =>
      cases ez : g x y with
      | none => simp [ea, eb, ez] at e
      | some z =>
        simp only [ea, eb, ez, Option.bind_some] at e
        refine ⟨G, ds, x, s, w, ea, fun v G1 H1 g1 d1 => ?_⟩
        refine ⟨G1, ds, y, g1.sub, w.mono g1.keep, eb, fun u G2 H2 g2 d2 => ?_⟩
        refine hr v u x y z G2 H2 _ g2.sub (d1.mono g2.keep) d2 ez fun q G3 H3 g3 d3 => ?_
        cases z with
        | bool t =>
          cases d3
          refine ⟨t, rfl, ?_⟩
          cases t with
          | true =>
            cases ec : gc ds with
            | none => simp [ec] at e
            | some o =>
              simp only [ec, Option.bind_some] at e
              refine iteT ⟨G3, ds, o, g3.sub, w.mono ((g1.trans g2).trans g3).keep, ec, fun p G4 H4 g4 d4 => ?_⟩
              exact hr' u p y o d G4 H4 Q g4.sub (d2.mono (g3.trans g4).keep) d4 e fun r G5 H5 g5 d5 => k r G5 H5 ((((g1.trans g2).trans g3).trans g4).trans g5) d5
          | false =>
            have e' : d = .bool false := by simpa using e.symm
            subst e'
            exact iteF (k _ G3 H3 ((g1.trans g2).trans g3) (.bl false))
        | _ => cases e
def tPO [TabL] (K : PySem.W.Frag) (g : DS S → Option (Option Int)) : TO := fun σ H Q => ∃ G ds o, Sub G H ∧ View K G σ ds ∧ g ds = some o ∧ ∀ G' H', Gr G H G' H' → Q o H'
theorem PO.imp {X : Cx} {e : Option Expr} {t t' : TO} (h : PO X e t) (i : ∀ σ H Q, t' σ H Q → t σ H Q) : PO X e t' := ⟨fun pins s σ H Q I q => h.run pins s σ H Q I (i σ H Q q)⟩
def gNoPart : DS S → Option (Option Int) := fun _ => some none
def gPart (g : DS S → Option D) : DS S → Option (Option Int) := fun ds => match g ds with
  | some (.int i) => some (some i)
  | _ => none
theorem op_no : PO X none (tPO X.K (gNoPart (S := S))) := PO.imp po_none fun σ H Q ⟨G, ds, d, s, w, e, k⟩ => by
  cases e
  exact k G H (.refl s)
theorem op_part (h : PE X e (tP X.K ga)) : PO X (some e) (tPO X.K (gPart ga)) := PO.imp (po_some h) fun σ H Q ⟨G, ds, d, s, w, e, k⟩ => by
  unfold gPart at e
  split at e
  · cases e
    rename_i i ea
    refine ⟨G, ds, .int i, s, w, ea, fun v G1 H1 g1 d1 => ?_⟩
    cases d1
    exact ⟨i, rfl, k G1 H1 g1⟩
  · cases e
def cutD (xs : List D) (lo hi : Option Int) : List D := (xs.drop (HT.sIx xs.length 0 lo)).take (HT.sIx xs.length xs.length hi - HT.sIx xs.length 0 lo)
theorem den_cut {K : PySem.W.Frag} {G : Hp} {vs : List V} {ds : List D} (h : DenAll K G vs ds) (lo hi : Option Int) : DenAll K G (cutV vs lo hi) (cutD ds lo hi) := by
  unfold cutV cutD
  rw [h.length]
  exact (h.drop _).take _
def slL : D → Option Int → Option Int → Option (List D)
  | .list xs, lo, hi => some (cutD xs lo hi)
  | _, _, _ => none
variable {lo hi : Option Expr} {gl gh : DS S → Option (Option Int)} {p2 : Pos}
def gSlF (ga : DS S → Option D) (gl gh : DS S → Option (Option Int)) : DS S → Option (List D) := fun ds => (ga ds).bind fun x => (gl ds).bind fun l => (gh ds).bind fun h => slL x l h
theorem cutV_le (xs : List V) (lo hi : Option Int) : (cutV xs lo hi).length ≤ xs.length := cutV_length xs lo hi
end
section
variable {X : Cx}
end
end
section
variable {TBL : TabL}
section
variable {K : PySem.W.Frag} {G : Hp}
mutual
theorem Den.lay : ∀ {v : V} {d : D}, Den K G v d → noD d = true → d.canLay0 = true
  | _, _, .non, _ => rfl
  | _, _, .bl b, _ => rfl
  | _, _, .int i, _ => rfl
  | _, _, .str x _ o, _ => by unfold PyData.canLay0; exact o
  | _, _, .lst _ _ r, h => by unfold PyData.canLay0; exact DenAll.lay r (by unfold noD at h; exact h)
  | _, _, .tup _ _ r, h => by unfold PyData.canLay0; exact DenAll.lay r (by unfold noD at h; exact h)
  | _, _, .emp _, h => by cases h
  | _, _, .dct _ _ _, h => by cases h
  | _, _, .obj _ _ _, h => by cases h
theorem DenAll.lay : ∀ {vs : List V} {ds : List D}, DenAll K G vs ds → noDAll ds = true → PyData.canLayAll0 ds = true
  | _, _, .nil, _ => rfl
  | _, _, .cons h r, e => by
    unfold noDAll at e
    obtain ⟨e1, e2⟩ := Bool.and_eq_true_iff.mp e
    unfold PyData.canLayAll0; rw [Den.lay h e1, DenAll.lay r e2]; rfl
end
theorem strOk_app {x y : Str} (hx : PyData.strOk x = true) (hy : PyData.strOk y = true) : PyData.strOk (x ++ y) = true := by
  unfold PyData.strOk at *
  rw [← Array.all_toList] at *
  rw [show (x ++ y).cps.toList = x.cps.toList ++ y.cps.toList from by show (x.cps ++ y.cps).toList = _; simp, List.all_append, hx, hy]; rfl
theorem strOk_sub {x : Str} {l : List Nat} (hx : PyData.strOk x = true) (h : ∀ c, c ∈ l → c ∈ x.cps.toList) : PyData.strOk ⟨l.toArray⟩ = true := by
  unfold PyData.strOk at *
  rw [← Array.all_toList] at *
  simp only [List.toList_toArray]
  rw [List.all_eq_true] at *
  exact fun c hc => hx c (h c hc)
end
def addD : D → D → Option D
  | .int i, .int j => some (.int (i + j))
  | .str x, .str y => if x.length + y.length ≤ sizeLine then some (.str (x ++ y)) else none
  | .tuple xs, .tuple ys => if xs.length + ys.length ≤ sizeLine then some (.tuple (xs ++ ys)) else none
  | _, _ => none
def addL : D → D → Option (List D)
  | .list xs, .list ys => if xs.length + ys.length ≤ sizeLine then some (xs ++ ys) else none
  | _, _ => none
def subD : D → D → Option D
  | .int i, .int j => some (.int (i - j))
  | _, _ => none
def mulD : D → D → Option D
  | .int i, .int j => if (-(2 ^ 64) < i ∧ i < 2 ^ 64) ∨ (-(2 ^ 64) < j ∧ j < 2 ^ 64) then some (.int (i * j)) else none
  | _, _ => none
def divD : D → D → Option D
  | .int i, .int j => if 0 < j ∧ j.natAbs.log2 < 9000 then some (.int (i / j)) else none
  | _, _ => none
def modD : D → D → Option D
  | .int i, .int j => if 0 < j then some (.int (i % j)) else none
  | _, _ => none
def powD : D → D → Option D
  | .int i, .int j => if 0 ≤ j ∧ j ≤ 1000000 ∧ i.natAbs < 2 ^ 64 then some (.int (i ^ j.toNat)) else none
  | _, _ => none
def negD : D → Option D
  | .int i => some (.int (-i))
  | _ => none
def strLt (x y : Str) : Bool := decide (x.cps.toList < y.cps.toList)
def ltD : D → D → Option D
  | .int i, .int j => some (.bool (decide (i < j)))
  | .str x, .str y => some (.bool (strLt x y))
  | _, _ => none
def leD : D → D → Option D
  | .int i, .int j => some (.bool (decide (i ≤ j)))
  | .str x, .str y => some (.bool (!strLt y x))
  | _, _ => none
def gtD : D → D → Option D
  | .int i, .int j => some (.bool (decide (j < i)))
  | .str x, .str y => some (.bool (strLt y x))
  | _, _ => none
def geD : D → D → Option D
  | .int i, .int j => some (.bool (decide (j ≤ i)))
  | .str x, .str y => some (.bool (!strLt x y))
  | _, _ => none
def eqD (x y : D) : Option D := if min x.depth y.depth ≤ 64 ∧ noD x = true ∧ noD y = true then some (.bool (PyData.eqv x y)) else none
def neD (x y : D) : Option D := if min x.depth y.depth ≤ 64 ∧ noD x = true ∧ noD y = true then some (.bool (!PyData.eqv x y)) else none
def anyEq (x : D) (ys : List D) : Bool := ys.any fun z => PyData.eqv z x
def inD : D → D → Option D
  | x, .list ys => if min (PyData.depthAll ys) x.depth ≤ 64 ∧ noD x = true ∧ noDAll ys = true then some (.bool (anyEq x ys)) else none
  | x, .tuple ys => if min (PyData.depthAll ys) x.depth ≤ 64 ∧ noD x = true ∧ noDAll ys = true then some (.bool (anyEq x ys)) else none
  | .str x, .str y => some (.bool (!(Builtin.Str.occurrences y x 0 y.length 1).isEmpty))
  | _, _ => none
def ninD : D → D → Option D
  | x, .list ys => if min (PyData.depthAll ys) x.depth ≤ 64 ∧ noD x = true ∧ noDAll ys = true then some (.bool (!anyEq x ys)) else none
  | x, .tuple ys => if min (PyData.depthAll ys) x.depth ≤ 64 ∧ noD x = true ∧ noDAll ys = true then some (.bool (!anyEq x ys)) else none
  | .str x, .str y => some (.bool (!(!(Builtin.Str.occurrences y x 0 y.length 1).isEmpty)))
  | _, _ => none
def isND : D → D → Option D
  | x, .none => some (.bool (match x with | .none => true | _ => false))
  | _, _ => none
def notND : D → D → Option D
  | x, .none => some (.bool (match x with | .none => false | _ => true))
  | _, _ => none
def ixD : D → D → Option D
  | .list xs, .int i => atI xs i
  | .tuple xs, .int i => atI xs i
  | .str x, .int i => (atI x.cps.toList i).map fun c => .str ⟨#[c]⟩
  | _, _ => none
section
variable {X : Cx} {K : PySem.W.Frag}
theorem r_I0 {f : Int → Int → Int} {g : D → D → Option D} (h : ∀ x y d, g x y = some d → ∃ i j, x = .int i ∧ y = .int j ∧ d = .int (f i j)) : R2D K (rI0 fun i j => .int (f i j)) g := by
  intro x y dx dy d G H Q s d1 d2 e k
  obtain ⟨i, j, rfl, rfl, rfl⟩ := h _ _ _ e
  cases d1; cases d2
  exact ⟨i, j, rfl, rfl, k _ G H (.refl s) (.int _)⟩
theorem r_I {C : Int → Int → Prop} {f : Int → Int → Int} {g : D → D → Option D} (h : ∀ x y d, g x y = some d → ∃ i j, x = .int i ∧ y = .int j ∧ C i j ∧ d = .int (f i j)) : R2D K (rI C fun i j => .int (f i j)) g := by
  intro x y dx dy d G H Q s d1 d2 e k
  obtain ⟨i, j, rfl, rfl, hc, rfl⟩ := h _ _ _ e
  cases d1; cases d2
  exact ⟨i, j, rfl, rfl, hc, k _ G H (.refl s) (.int _)⟩
def rAddD (K : PySem.W.Frag) : R2 := fun x y H Q => rI0 (fun i j => V.int (i + j)) x y H Q ∨ (fun x y H Q => ∃ i j, x = V.str i ∧ y = V.str j ∧ i.length + j.length ≤ sizeLine ∧ Q (.str (i ++ j)) H : R2) x y H Q ∨ rCatF K x y H Q
theorem o_add : OpR X (binaryOp .Add) (rAddD X.K) := OpR.or op_add (OpR.or op_add_str op_catF)
theorem d_add : R2D K (rAddD K) addD := by
  intro x y dx dy d G H Q s d1 d2 e k
  cases d1 with
  | int i =>
    cases d2 with
    | int j => cases e; exact .inl ⟨i, j, rfl, rfl, k _ G H (.refl s) (.int _)⟩
    | _ => cases e
  | str i hi oi =>
    cases d2 with
    | str j hj oj =>
      simp only [addD] at e
      split at e
      · cases e
        rename_i hz
        exact .inr (.inl ⟨i, j, rfl, rfl, hz, k _ G H (.refl s) (.str _ (by show (i.cps ++ j.cps).size ≤ _; rw [Array.size_append]; exact hz) (strOk_app oi oj))⟩)
      · cases e
    | _ => cases e
  | tup q1 z1 r1 =>
    cases d2 with
    | tup q2 z2 r2 =>
      simp only [addD] at e
      split at e
      · cases e
        rename_i vs1 ds1 vs2 ds2 hz
        have hz' := hz
        rw [← r1.length, ← r2.length] at hz
        refine .inr (.inr ⟨_, _, _, _, rfl, rfl, sqt_mono s q1.sq, sqt_mono s q2.sq, hz, fun h0 => ?_, fun h0 h1 => ?_, fun _ _ p o dn hp => ?_⟩)
        · subst h0
          cases r1
          exact k _ G H (.refl s) (.tup q2 z2 r2)
        · subst h1
          cases r2
          exact k _ G H (.refl s) (by rw [List.append_nil]; exact .tup q1 z1 r1)
        · have hg := s.free hp
          exact k _ (upd G p _) _ (.upd s hp) (.tup (PqT.new dn) (by rw [List.length_append]; exact hz) ((r1.append r2).mono fun b u e => by rw [upd_ne (ne_of_none e hg)]; exact e))
      · cases e
    | _ => cases e
  | _ => cases e
theorem d_addL : R2F K rCat addL := by
  intro x y dx dy xs G H Q s d1 d2 e k
  cases d1 with
  | lst q1 z1 r1 =>
    cases d2 with
    | lst q2 z2 r2 =>
      simp only [addL] at e
      split at e
      · cases e
        rename_i hz
        rw [← r1.length, ← r2.length] at hz
        exact ⟨_, _, _, _, rfl, rfl, s _ _ q1, s _ _ q2, hz, fun p hp => k p _ G _ (.own s hp) (s.free hp) hp upd_same (by rw [List.length_append]; exact hz) (r1.append r2)⟩
      · cases e
    | _ => cases e
  | _ => cases e
theorem d_sub : R2D K (rI0 fun i j => .int (i - j)) subD := r_I0 fun x y d e => by
  cases x <;> cases y <;> first | (cases e; exact ⟨_, _, rfl, rfl, rfl⟩) | cases e
theorem d_mul : R2D K (rI CMul fun i j => .int (i * j)) mulD := r_I fun x y d e => by
  cases x <;> cases y <;> first | (simp only [mulD] at e; split at e <;> cases e; exact ⟨_, _, rfl, rfl, by assumption, rfl⟩) | cases e
theorem d_div : R2D K (rI CDivW fun i j => .int (i / j)) divD := r_I fun x y d e => by
  cases x <;> cases y <;> first | (simp only [divD] at e; split at e <;> cases e; exact ⟨_, _, rfl, rfl, by assumption, rfl⟩) | cases e
theorem d_mod : R2D K (rI (fun _ j => 0 < j) fun i j => .int (i % j)) modD := r_I fun x y d e => by
  cases x <;> cases y <;> first | (simp only [modD] at e; split at e <;> cases e; exact ⟨_, _, rfl, rfl, by assumption, rfl⟩) | cases e
theorem d_pow : R2D K (rI CPow fun i j => .int (i ^ j.toNat)) powD := r_I fun x y d e => by
  cases x <;> cases y <;> first | (simp only [powD] at e; split at e <;> cases e; exact ⟨_, _, rfl, rfl, by assumption, rfl⟩) | cases e
theorem d_neg : R1D K (rU fun i => .int (-i)) negD := by
  intro x dx d G H Q s d1 e k
  cases d1 with
  | int i => cases e; exact ⟨i, rfl, k _ G H (.refl s) (.int _)⟩
  | _ => cases e
def rCmpD (p : Int → Int → Bool) (q : Str → Str → Bool) : R2 := fun x y H Q => rI0 (fun i j => V.bl (p i j)) x y H Q ∨ ∃ i j, x = V.str i ∧ y = V.str j ∧ Q (.bl (q i j)) H
theorem o_lt : OpR X (compareOp .Lt) (rCmpD (fun i j => decide (i < j)) strLt) := OpR.or op_lt op_lt_str
theorem o_le : OpR X (compareOp .LtE) (rCmpD (fun i j => decide (i ≤ j)) fun x y => !strLt y x) := OpR.or op_le op_le_str
theorem o_gt : OpR X (compareOp .Gt) (rCmpD (fun i j => decide (j < i)) fun x y => strLt y x) := OpR.or op_gt op_gt_str
theorem r_cmp {p : Int → Int → Bool} {q : Str → Str → Bool} {g : D → D → Option D} (h : ∀ x y d, g x y = some d → (∃ i j, x = .int i ∧ y = .int j ∧ d = .bool (p i j)) ∨ ∃ i j, x = .str i ∧ y = .str j ∧ d = .bool (q i j)) : R2D K (rCmpD p q) g := by
  intro x y dx dy d G H Q s d1 d2 e k
  rcases h _ _ _ e with ⟨i, j, rfl, rfl, rfl⟩ | ⟨i, j, rfl, rfl, rfl⟩
  · cases d1; cases d2
    exact .inl ⟨i, j, rfl, rfl, k _ G H (.refl s) (.bl _)⟩
  · cases d1; cases d2
    exact .inr ⟨i, j, rfl, rfl, k _ G H (.refl s) (.bl _)⟩
theorem d_lt : R2D K (rCmpD (fun i j => decide (i < j)) strLt) ltD := r_cmp fun x y d e => by
  cases x <;> cases y <;> first | (cases e; exact .inl ⟨_, _, rfl, rfl, rfl⟩) | (cases e; exact .inr ⟨_, _, rfl, rfl, rfl⟩) | cases e
theorem d_le : R2D K (rCmpD (fun i j => decide (i ≤ j)) fun x y => !strLt y x) leD := r_cmp fun x y d e => by
  cases x <;> cases y <;> first | (cases e; exact .inl ⟨_, _, rfl, rfl, rfl⟩) | (cases e; exact .inr ⟨_, _, rfl, rfl, rfl⟩) | cases e
theorem d_gt : R2D K (rCmpD (fun i j => decide (j < i)) fun x y => strLt y x) gtD := r_cmp fun x y d e => by
  cases x <;> cases y <;> first | (cases e; exact .inl ⟨_, _, rfl, rfl, rfl⟩) | (cases e; exact .inr ⟨_, _, rfl, rfl, rfl⟩) | cases e
def rEqX (K : PySem.W.Frag) (n : Bool) : R2 := fun x y H Q => ∃ d e, Dp K H x d ∧ Dp K H y e ∧ d.canLay0 = true ∧ e.canLay0 = true ∧ min d.depth e.depth ≤ 64 ∧ Q (.bl (if n then !PyData.eqv d e else PyData.eqv d e)) H
theorem o_eq (hu : X.A.units + 65 < cLine) : OpR X (compareOp .Eq) (rEqX X.K false) := by
  intro pins s σ H x y v u Q I rx ry h
  obtain ⟨d, e, hd, he, sd, se, z, q⟩ := h
  obtain ⟨as, r1⟩ := Dp.reads I d x v hd rx
  obtain ⟨bs, r2⟩ := Dp.reads I e y u he ry
  exact SeqAt.compareEq_reads r1 r2 sd se (by omega) ⟨.bl _, H, I, rfl, q⟩
theorem o_ne (hu : X.A.units + 65 < cLine) : OpR X (compareOp .NotEq) (rEqX X.K true) := by
  intro pins s σ H x y v u Q I rx ry h
  obtain ⟨d, e, hd, he, sd, se, z, q⟩ := h
  obtain ⟨as, r1⟩ := Dp.reads I d x v hd rx
  obtain ⟨bs, r2⟩ := Dp.reads I e y u he ry
  exact SeqAt.compareNe_reads r1 r2 sd se (by omega) ⟨.bl _, H, I, rfl, q⟩
theorem d_eq : R2D K (rEqX K false) eqD := by
  intro x y dx dy d G H Q s d1 d2 e k
  unfold eqD at e
  split at e
  · cases e
    rename_i hz
    exact ⟨dx, dy, (d1.mono s).dp hz.2.1, (d2.mono s).dp hz.2.2, d1.lay hz.2.1, d2.lay hz.2.2, hz.1, k _ G H (.refl s) (.bl _)⟩
  · cases e
theorem d_ne : R2D K (rEqX K true) neD := by
  intro x y dx dy d G H Q s d1 d2 e k
  unfold neD at e
  split at e
  · cases e
    rename_i hz
    exact ⟨dx, dy, (d1.mono s).dp hz.2.1, (d2.mono s).dp hz.2.2, d1.lay hz.2.1, d2.lay hz.2.2, hz.1, k _ G H (.refl s) (.bl _)⟩
  · cases e
def rInX (K : PySem.W.Frag) (n : Bool) : R2 := fun x y H Q => ∃ d ds, Dp K H x d ∧ (Dp K H y (.list ds) ∨ Dp K H y (.tuple ds)) ∧ d.canLay0 = true ∧ PyData.canLayAll0 ds = true ∧ min (PyData.depthAll ds) d.depth ≤ 64 ∧ Q (.bl (if n then !anyEq d ds else anyEq d ds)) H
theorem o_inS (hu : X.A.units + 66 < cLine) : OpR X (compareOp .In) (rInX X.K false) := by
  intro pins s σ H x y v u Q I rx ry h
  obtain ⟨d, ds, hd, he, sd, se, z, q⟩ := h
  obtain ⟨as, r1⟩ := Dp.reads I d x v hd rx
  rcases he with he | he
  · obtain ⟨bs, r2⟩ := Dp.reads I (.list ds) y u he ry
    exact SeqAt.in_list_reads r2 r1 se sd (by omega) ⟨.bl _, H, I, rfl, q⟩
  · obtain ⟨bs, r2⟩ := Dp.reads I (.tuple ds) y u he ry
    exact SeqAt.in_tuple_reads r2 r1 se sd (by omega) ⟨.bl _, H, I, rfl, q⟩
theorem o_ninS (hu : X.A.units + 66 < cLine) : OpR X (compareOp .NotIn) (rInX X.K true) := by
  intro pins s σ H x y v u Q I rx ry h
  obtain ⟨d, ds, hd, he, sd, se, z, q⟩ := h
  obtain ⟨as, r1⟩ := Dp.reads I d x v hd rx
  rcases he with he | he
  · obtain ⟨bs, r2⟩ := Dp.reads I (.list ds) y u he ry
    exact SeqAt.notIn_list_reads r2 r1 se sd (by omega) ⟨.bl _, H, I, rfl, q⟩
  · obtain ⟨bs, r2⟩ := Dp.reads I (.tuple ds) y u he ry
    exact SeqAt.notIn_tuple_reads r2 r1 se sd (by omega) ⟨.bl _, H, I, rfl, q⟩
def rInY (K : PySem.W.Frag) (n : Bool) : R2 := fun x y H Q => rInX K n x y H Q ∨ ∃ i j, x = V.str i ∧ y = V.str j ∧ Q (.bl (if n then !(!(Builtin.Str.occurrences j i 0 j.length 1).isEmpty) else !(Builtin.Str.occurrences j i 0 j.length 1).isEmpty)) H
theorem o_in (hu : X.A.units + 66 < cLine) : OpR X (compareOp .In) (rInY X.K false) := OpR.or (o_inS hu) op_in_str
theorem o_nin (hu : X.A.units + 66 < cLine) : OpR X (compareOp .NotIn) (rInY X.K true) := OpR.or (o_ninS hu) op_notin_str
theorem lay_list {ds : List D} (h : (PyData.list ds).canLay0 = true) : PyData.canLayAll0 ds = true := by unfold PyData.canLay0 at h; exact h
theorem lay_tup {ds : List D} (h : (PyData.tuple ds).canLay0 = true) : PyData.canLayAll0 ds = true := by unfold PyData.canLay0 at h; exact h
theorem d_in : R2D K (rInY K false) inD := by
  intro x y dx dy d G H Q s d1 d2 e k
  have l2 := d2.lay
  have m2 := (d2.mono s.same).dp
  cases dy with
  | list ys =>
    simp only [inD] at e
    split at e
    · cases e
      rename_i hz
      exact .inl ⟨dx, ys, (d1.mono s).dp hz.2.1, .inl (m2 hz.2.2), d1.lay hz.2.1, lay_list (l2 hz.2.2), hz.1, k _ G H (.refl s) (.bl _)⟩
    · cases e
  | tuple ys =>
    simp only [inD] at e
    split at e
    · cases e
      rename_i hz
      exact .inl ⟨dx, ys, (d1.mono s).dp hz.2.1, .inr (m2 hz.2.2), d1.lay hz.2.1, lay_tup (l2 hz.2.2), hz.1, k _ G H (.refl s) (.bl _)⟩
    · cases e
  | str j =>
    cases d2
    cases d1 with
    | str i hi oi => cases e; exact .inr ⟨i, j, rfl, rfl, k _ G H (.refl s) (.bl _)⟩
    | _ => cases e
  | _ => cases dx <;> cases e
theorem d_nin : R2D K (rInY K true) ninD := by
  intro x y dx dy d G H Q s d1 d2 e k
  have l2 := d2.lay
  have m2 := (d2.mono s.same).dp
  cases dy with
  | list ys =>
    simp only [ninD] at e
    split at e
    · cases e
      rename_i hz
      exact .inl ⟨dx, ys, (d1.mono s).dp hz.2.1, .inl (m2 hz.2.2), d1.lay hz.2.1, lay_list (l2 hz.2.2), hz.1, k _ G H (.refl s) (.bl _)⟩
    · cases e
  | tuple ys =>
    simp only [ninD] at e
    split at e
    · cases e
      rename_i hz
      exact .inl ⟨dx, ys, (d1.mono s).dp hz.2.1, .inr (m2 hz.2.2), d1.lay hz.2.1, lay_tup (l2 hz.2.2), hz.1, k _ G H (.refl s) (.bl _)⟩
    · cases e
  | str j =>
    cases d2
    cases d1 with
    | str i hi oi => cases e; exact .inr ⟨i, j, rfl, rfl, k _ G H (.refl s) (.bl _)⟩
    | _ => cases e
  | _ => cases dx <;> cases e
theorem d_isN : R2D K (fun x y H Q => y = V.non ∧ Q (.bl (decide (x = .non))) H) isND := by
  intro x y dx dy d G H Q s d1 d2 e k
  cases d2 with
  | non =>
    cases e
    refine ⟨rfl, k _ G H (.refl s) ?_⟩
    cases d1 <;> exact .bl _
  | _ => cases dx <;> cases e
theorem d_notN : R2D K (fun x y H Q => y = V.non ∧ Q (.bl (!decide (x = .non))) H) notND := by
  intro x y dx dy d G H Q s d1 d2 e k
  cases d2 with
  | non =>
    cases e
    refine ⟨rfl, k _ G H (.refl s) ?_⟩
    cases d1 <;> exact .bl _
  | _ => cases dx <;> cases e
theorem den_at {G : Hp} {vs : List V} {ds : List D} (r : DenAll K G vs ds) {i : Int} {d : D} (e : atI ds i = some d) : ∃ v, atI vs i = some v ∧ Den K G v d := by
  unfold atI at *
  rw [r.length]
  cases h : ixN ds.length i with
  | none => rw [h] at e; cases e
  | some j =>
    rw [h] at e
    exact r.get e
theorem d_ix : R2D K (rIx K) ixD := by
  intro x y dx dy d G H Q s d1 d2 e k
  cases d2 with
  | int i =>
    cases d1 with
    | lst q z r =>
      obtain ⟨v, h1, h2⟩ := den_at r (show atI _ i = some d from e)
      exact .inl ⟨_, _, i, v, rfl, rfl, SqL.of (s _ _ q), h1, k v G H (.refl s) h2⟩
    | tup q z r =>
      obtain ⟨v, h1, h2⟩ := den_at r (show atI _ i = some d from e)
      exact .inr (.inl ⟨_, _, i, v, rfl, rfl, sqt_mono s q.sq, h1, k v G H (.refl s) h2⟩)
    | str x hx ox =>
      have e' : (atI x.cps.toList i).map (fun c => PyData.str ⟨#[c]⟩) = some d := e
      cases h : atI x.cps.toList i with
      | none => rw [h] at e'; cases e'
      | some c =>
        rw [h] at e'
        cases e'
        have hc : c ∈ x.cps.toList := by
          obtain ⟨j, _, h2, _⟩ := atI_get h
          exact List.mem_of_getElem? h2
        exact .inr (.inr ⟨x, i, c, rfl, rfl, hx, h, k _ G H (.refl s) (.str _ (by show 1 ≤ sizeLine; decide) (strOk_sub (l := [c]) ox fun c' hc' => by simp at hc'; rw [hc']; exact hc))⟩)
    | _ => cases e
  | _ => cases dx <;> cases e
end
end
section
variable {TBL : TabL}
def setAll (σ : L2.St) (l : List (Nat × V)) : L2.St := l.foldl (fun σ p => σ.set p.1 (some p.2)) σ
def setD {S : Type} (ds : DS S) (l : List (Nat × D)) : DS S := l.foldl (fun ds p => ds.set p.1 (some (.d p.2))) ds
abbrev AsgV (K : PySem.W.Frag) (G : Hp) : List (Nat × V) → List (Nat × D) → Prop := Paired fun (p : Nat × V) (q : Nat × D) => p.1 = q.1 ∧ Den K G p.2 q.2
section
variable {S : Type} {K : PySem.W.Frag} {G : Hp} {σ : L2.St} {ds : DS S}
theorem View.set {i : Nat} {v : V} {d : D} (h : View K G σ ds) (hd : Den K G v d) : View K G (σ.set i (some v)) (ds.set i (some (.d d))) := by
  refine ⟨by rw [List.length_set, List.length_set]; exact h.len, fun j m e => ?_⟩
  by_cases hj : i = j
  · subst hj
    by_cases hl : i < ds.length
    · rw [List.getElem?_set_self hl] at e
      cases e
      exact ⟨v, by rw [List.getElem?_set_self (by rw [← h.len]; exact hl)], hd⟩
    · rw [List.getElem?_eq_none (by rw [List.length_set]; omega)] at e; cases e
  · rw [List.getElem?_set_ne hj] at e ⊢
    exact h.has j m e
theorem View.none {i : Nat} (h : View K G σ ds) : View K G (σ.set i .none) (ds.set i .none) := by
  refine ⟨by rw [List.length_set, List.length_set]; exact h.len, fun j m e => ?_⟩
  by_cases hj : i = j
  · subst hj
    by_cases hl : i < ds.length
    · rw [List.getElem?_set_self hl] at e; cases e
    · rw [List.getElem?_eq_none (by rw [List.length_set]; omega)] at e; cases e
  · rw [List.getElem?_set_ne hj] at e ⊢
    exact h.has j m e
theorem View.setAll : ∀ {vs : List (Nat × V)} {as : List (Nat × D)} {σ : L2.St} {ds : DS S}, View K G σ ds → AsgV K G vs as → View K G (DL.setAll σ vs) (setD ds as)
  | _, _, _, _, h, .nil => h
  | _, _, σ, ds, h, .cons (a := p) (b := q) ⟨e, hd⟩ r => by
    refine View.setAll (σ := σ.set p.1 (some p.2)) (ds := ds.set q.1 (some (.d q.2))) ?_ r
    rw [← e]
    exact h.set hd
def wipeD (ds : DS S) : List Nat → DS S
  | [] => ds
  | v :: vs => (wipeD ds vs).set v none
theorem View.wipe (h : View K G σ ds) : ∀ vs : List Nat, View K G (L2.wipe σ vs) (wipeD ds vs)
  | [] => h
  | v :: vs => (View.wipe h vs).none
end
theorem wipe_set_out {σ : L2.St} {i : Nat} {o : Option V} : ∀ {vs : List Nat}, i ∉ vs → wipe (σ.set i o) vs = (wipe σ vs).set i o
  | [], _ => rfl
  | v :: vs, h => by
    have h1 : i ≠ v := fun z => h (by simp [z])
    have h2 : i ∉ vs := fun z => h (by simp [z])
    show (wipe (σ.set i o) vs).set v none = ((wipe σ vs).set v none).set i o
    rw [wipe_set_out h2, List.set_comm _ _ h1]
theorem wipe_set {σ : L2.St} {i : Nat} {o : Option V} : ∀ {vs : List Nat}, i ∈ vs → wipe (σ.set i o) vs = wipe σ vs
  | [], h => by cases h
  | v :: vs, h => by
    show (wipe (σ.set i o) vs).set v none = (wipe σ vs).set v none
    by_cases h2 : i ∈ vs
    · rw [wipe_set h2]
    · have h1 : i = v := by simpa [h2] using h
      subst h1
      rw [wipe_set_out h2, List.set_set]
theorem wipe_wipe {σ : L2.St} : ∀ {vs : List Nat}, wipe (wipe σ vs) vs = wipe σ vs
  | [] => rfl
  | v :: vs => by
    have h := wipe_set (σ := wipe σ vs) (i := v) (o := none) (vs := v :: vs) List.mem_cons_self
    show wipe ((wipe σ vs).set v none) (v :: vs) = _
    rw [h]
    show (wipe (wipe σ vs) vs).set v none = (wipe σ vs).set v none
    rw [wipe_wipe]
theorem wipe_setAll {own : List Nat} : ∀ {l : List (Nat × V)} {σ : L2.St}, (∀ p ∈ l, p.1 ∈ own) → wipe (setAll σ l) own = wipe σ own
  | [], _, _ => rfl
  | p :: l, σ, h => by
    show wipe (setAll (σ.set p.1 (some p.2)) l) own = _
    rw [wipe_setAll fun q hq => h q (List.mem_cons_of_mem _ hq), wipe_set (h p List.mem_cons_self)]
def DenI (W : Bool) (K : PySem.W.Frag) (G : Hp) (v : V) (d : D) : Prop := Den K G v d ∨ (W = true ∧ ∃ (a : Addr) (vs : List V) (ds : List D), v = .ref a ∧ d = .tuple ds ∧ SqT K G a vs ∧ vs.length ≤ sizeLine ∧ DenAll K G vs ds)
theorem DenI.den {K : PySem.W.Frag} {G : Hp} {v : V} {d : D} (h : DenI false K G v d) : Den K G v d := h.elim id fun ⟨z, _⟩ => nomatch z
def TGD [TabL] (W : Bool) (K : PySem.W.Frag) (g : TG) (t : D → Option (List (Nat × D))) : Prop := ∀ x d as σ G H (Q : L2.St → Hp → Prop), Sub G H → DenI W K G x d → t d = some as → (∀ vs, AsgV K G vs as → Q (setAll σ vs) H) → g x σ H Q
def asgN (i : Nat) : D → Option (List (Nat × D)) := fun d => some [(i, d)]
def asgT (is : List Nat) : D → Option (List (Nat × D))
  | .tuple ds => if ds.length = is.length then some (is.zip ds) else none
  | _ => none
theorem tgd_name {K : PySem.W.Frag} {i : Nat} : TGD false K (gName i) (asgN i) := fun x d as σ G H Q s hd e k => by
  cases e
  exact k [(i, x)] (.cons ⟨rfl, hd.den⟩ .nil)
def gNames : List Nat → TGs
  | [] => L2.gNil
  | i :: is => L2.gCons (gName i) (gNames is)
theorem names_go {K : PySem.W.Frag} {G H : Hp} {Q : L2.St → Hp → Prop} : ∀ {is : List Nat} {vs : List V} {ds : List D} {σ : L2.St}, DenAll K G vs ds → ds.length = is.length → (∀ ws, AsgV K G ws (is.zip ds) → Q (setAll σ ws) H) → gNames is vs σ H Q
  | [], _, [], σ, .nil, _, k => ⟨rfl, k [] .nil⟩
  | i :: is, _, _ :: ds, σ, .cons (v := v) h r, z, k => ⟨v, _, rfl, names_go (σ := σ.set i (some v)) r (by simpa using z) fun ws a => k ((i, v) :: ws) (.cons ⟨rfl, h⟩ a)⟩
theorem tgd_tup {W : Bool} {K : PySem.W.Frag} {is : List Nat} : TGD W K (L2.gTup K is.length (gNames is)) (asgT is) := fun x d as σ G H Q s hd e k => by
  have go : ∀ {a : Addr} {vs : List V} {ds : List D}, SqT K G a vs → DenAll K G vs ds → asgT is (.tuple ds) = some as → L2.gTup K is.length (gNames is) (.ref a) σ H Q := by
    intro a vs ds q r e
    simp only [asgT] at e
    split at e
    · cases e
      rename_i hz
      exact ⟨_, _, rfl, sqt_mono s q, by rw [r.length]; exact hz, names_go r hz k⟩
    · cases e
  rcases hd with hd | ⟨_, a, vs, ds, rfl, rfl, q, _, r⟩
  · cases hd with
    | tup q z r => exact go q.sq r e
    | _ => cases e
  · exact go q r e
theorem own_name {i : Nat} {own : List Nat} (h : i ∈ own) : ∀ d as, asgN i d = some as → ∀ p ∈ as, p.1 ∈ own := fun d as e p hp => by
  cases e
  simp at hp
  subst hp
  exact h
theorem own_tup {is own : List Nat} (h : ∀ i ∈ is, i ∈ own) : ∀ d as, asgT is d = some as → ∀ p ∈ as, p.1 ∈ own := fun d as e p hp => by
  cases d with
  | tuple ds =>
    simp only [asgT] at e
    split at e
    · cases e
      exact h _ (List.of_mem_zip hp).1
    · cases e
  | _ => cases e
theorem asgV_slots {K : PySem.W.Frag} {G : Hp} {own : List Nat} : ∀ {vs : List (Nat × V)} {as : List (Nat × D)}, AsgV K G vs as → (∀ p ∈ as, p.1 ∈ own) → ∀ p ∈ vs, p.1 ∈ own
  | _, _, .nil, _, p, hp => by cases hp
  | _, _, .cons ⟨e, _⟩ r, h, p, hp => by
    rcases List.mem_cons.mp hp with rfl | hp
    · rw [e]; exact h _ List.mem_cons_self
    · exact asgV_slots r (fun q hq => h q (List.mem_cons_of_mem _ hq)) p hp
structure ItD [TabL] (W : Bool) (K : PySem.W.Frag) (J : It) (xs : List D) (G : Hp) : Prop where
  len : xs.length ≤ sizeLine
  go : ∀ (i : Nat) H, Sub G H → i < xs.length → J.go i H
  stop : ∀ (i : Nat) H, Sub G H → xs.length ≤ i → i ≤ xs.length → J.stop i H
  yld : ∀ (i : Nat) H x H', Sub G H → i < xs.length → J.yld i H x H' → ∃ d, xs[i]? = some d ∧ ∀ G0, Same G G0 → Sub G0 H → ∃ G1, Gr G0 H G1 H' ∧ DenI W K G1 x d
def tI [TabL] (W : Bool) {S : Type} (K : PySem.W.Frag) (src : DS S → Option (List D)) : TI := fun σ H R => ∃ G ds xs, Sub G H ∧ View K G σ ds ∧ src ds = some xs ∧ ∀ J G' H', Gr G H G' H' → ItD W K J xs G' → R J H'
theorem PI.imp {X : Cx} {tg e : Expr} {t t' : TI} (h : PI X tg e t) (i : ∀ σ H R, t' σ H R → t σ H R) : PI X tg e t' := ⟨fun pins s σ H R I q => h.run pins s σ H R I (i σ H R q)⟩
theorem PI.or {X : Cx} {tg e : Expr} {t t' : TI} (h : PI X tg e t) (h' : PI X tg e t') : PI X tg e (fun σ H R => t σ H R ∨ t' σ H R) := ⟨fun pins s σ H R I q => q.elim (h.run pins s σ H R I) (h'.run pins s σ H R I)⟩
section
variable {S : Type} {X : Cx} {K : PySem.W.Frag} {tg e e2 : Expr} {ga gb : DS S → Option D} {G : Hp}
theorem itd_list {a : Addr} {vs : List V} {xs : List D} (q : G a = some (.lst vs)) (z : vs.length ≤ sizeLine) (r : DenAll K G vs xs) : ItD false K (Itl K a) xs G where
  len := by rw [← r.length]; exact z
  go := fun i H s hi => by
    have hi' : i < vs.length := by rw [r.length]; exact hi
    exact ⟨vs, vs[i], SqL.of (s _ _ q), List.getElem?_eq_getElem hi'⟩
  stop := fun i H s hi _ => ⟨vs, SqL.of (s _ _ q), by rw [r.length]; exact hi⟩
  yld := fun i H x H' s hi ⟨e, y⟩ => by
    subst e
    obtain ⟨d, h1, h2⟩ := r.getV (y vs (SqL.of (s _ _ q)))
    exact ⟨d, h1, fun G0 s0 s1 => ⟨G0, .refl s1, .inl (h2.mono s0)⟩⟩
theorem itd_tup {a : Addr} {vs : List V} {xs : List D} (q : SqT K G a vs) (z : vs.length ≤ sizeLine) (r : DenAll K G vs xs) : ItD false K (Itt K a) xs G where
  len := by rw [← r.length]; exact z
  go := fun i H s hi => by
    have hi' : i < vs.length := by rw [r.length]; exact hi
    exact ⟨vs, vs[i], sqt_mono s q, List.getElem?_eq_getElem hi'⟩
  stop := fun i H s hi _ => ⟨vs, sqt_mono s q, by rw [r.length]; exact hi⟩
  yld := fun i H x H' s hi ⟨e, y⟩ => by
    subst e
    obtain ⟨d, h1, h2⟩ := r.getV (y vs (sqt_mono s q))
    exact ⟨d, h1, fun G0 s0 s1 => ⟨G0, .refl s1, .inl (h2.mono s0)⟩⟩
def signsD (x : Str) : List D := x.cps.toList.map fun c => .str ⟨#[c]⟩
theorem itd_str {x : Str} (z : x.length ≤ sizeLine) (o : PyData.strOk x = true) : ItD false K (Its x) (signsD x) G where
  len := by unfold signsD; rw [List.length_map, Array.length_toList]; exact z
  go := fun i H s hi => by show i < x.cps.size; simpa [signsD] using hi
  stop := fun i H s hi _ => by show x.cps.size ≤ i; simpa [signsD] using hi
  yld := fun i H v H' s hi ⟨e, c, hc, ev⟩ => by
    subst e ev
    have hc' : x.cps.toList[i]? = some c := by rw [Array.getElem?_toList]; exact hc
    refine ⟨.str ⟨#[c]⟩, by unfold signsD; rw [List.getElem?_map, hc']; rfl, fun G0 s0 s1 => ⟨G0, .refl s1, .inl (.str _ (by show 1 ≤ sizeLine; decide) (strOk_sub (l := [c]) o fun c' h => ?_))⟩⟩
    simp at h
    rw [h]
    exact List.mem_of_getElem? hc'
def srcD : D → Option (List D)
  | .list xs => some xs
  | .tuple xs => some xs
  | .str x => some (signsD x)
  | _ => none
def gSrc (g : DS S → Option D) : DS S → Option (List D) := fun ds => (g ds).bind srcD
theorem pi_any (h : PE X e (tP X.K ga)) : PI X tg e (tI false X.K (gSrc ga)) := PI.imp (PI.or (pi_list h) (PI.or (pi_tup h) (pi_str h))) fun σ H R ⟨G, ds, xs, s, w, e, k⟩ => by
  unfold gSrc at e
  cases ea : ga ds with
  | none => rw [ea] at e; cases e
  | some d =>
    rw [ea] at e
    cases d with
    | list ys =>
      cases e
      refine .inl ⟨G, ds, _, s, w, ea, fun v G1 H1 g1 d1 => ?_⟩
      cases d1 with
      | lst q z r => exact ⟨_, rfl, ⟨_, SqL.of (g1.sub _ _ q)⟩, k _ G1 H1 g1 (itd_list q z r)⟩
    | tuple ys =>
      cases e
      refine .inr (.inl ⟨G, ds, _, s, w, ea, fun v G1 H1 g1 d1 => ?_⟩)
      cases d1 with
      | tup q z r => exact ⟨_, rfl, ⟨_, sqt_mono g1.sub q.sq⟩, k _ G1 H1 g1 (itd_tup q.sq z r)⟩
    | str x =>
      cases e
      refine .inr (.inr ⟨G, ds, _, s, w, ea, fun v G1 H1 g1 d1 => ?_⟩)
      cases d1 with
      | str _ z o => exact ⟨_, rfl, k _ G1 H1 g1 (itd_str z o)⟩
    | _ => cases e
def rngD (lo : Int) (n : Nat) : List D := (List.range n).map fun (k : Nat) => .int (lo + (k : Int))
theorem itd_rng {lo : Int} {n : Nat} (z : n ≤ sizeLine) : ItD false K (Itr lo n) (rngD lo n) G where
  len := by unfold rngD; simpa using z
  go := fun i H s hi => by simpa [rngD, Itr] using hi
  stop := fun i H s hi _ => by simpa [rngD, Itr] using hi
  yld := fun i H v H' s hi ⟨e, ev⟩ => by
    subst e ev
    have hi' : i < n := by simpa [rngD] using hi
    exact ⟨.int (lo + (i : Int)), by unfold rngD; rw [List.getElem?_map, List.getElem?_range hi']; rfl, fun G0 s0 s1 => ⟨G0, .refl s1, .inl (.int _)⟩⟩
def rng1 : List D → Option (List D)
  | [.int j] => if j ≤ sizeLine ∧ -(2 ^ 62) ≤ j then some (rngD 0 j.toNat) else none
  | _ => none
def gArgs (g : DS S → Option (List D)) (f : List D → Option (List D)) : DS S → Option (List D) := fun ds => (g ds).bind f
variable {g1 : DS S → Option (List D)} {p pos : Pos} {a b : Expr}
theorem pi_r1 (hg : Gl X "range") (hm : X.mg "range" = none) (ha : PA X [a] (tPA X.K g1)) (hs : starEach [a] X.env = [(false, eval a X.env)] := by rfl) : PI X tg (.Call (.Name "range" p) [a] [] pos) (tI false X.K (gArgs g1 rng1)) :=
  PI.imp (pi_range1 hg hm ha hs) fun σ H R ⟨G, ds, xs, s, w, e, k⟩ => by
    unfold gArgs at e
    cases ea : g1 ds with
    | none => rw [ea] at e; cases e
    | some as =>
      rw [ea] at e
      match as, e with
      | [.int j], e =>
        simp only [Option.bind_some, rng1] at e
        split at e
        · cases e
          rename_i hz
          refine ⟨G, ds, _, s, w, ea, fun vs G1 H1 g1 d1 => ?_⟩
          cases d1 with
          | cons d1 r =>
            cases r
            cases d1
            have hl : (sizeLine : Int) < 2 ^ 62 := by decide
            exact ⟨j, rfl, hz.2, by omega, k _ G1 H1 g1 (itd_rng (by omega))⟩
        · cases e
variable {tpos : Pos} {elts : List Expr} {kk : Nat}
def zipD (xs ys : List D) : List D := (xs.zip ys).map fun p => .tuple [p.1, p.2]
theorem zipD_len (xs ys : List D) : (zipD xs ys).length = min xs.length ys.length := by unfold zipD; rw [List.length_map, List.length_zip]
theorem zipD_get {xs ys : List D} {i : Nat} {x y : D} (hx : xs[i]? = some x) (hy : ys[i]? = some y) : (zipD xs ys)[i]? = some (.tuple [x, y]) := by
  unfold zipD
  have e : (xs.zip ys)[i]? = some (x, y) := by
    rw [List.getElem?_zip_eq_some]
    exact ⟨hx, hy⟩
  rw [List.getElem?_map, e]
  rfl
theorem itd_zipL {a b : Addr} {vs ws : List V} {xs ys : List D} (q : G a = some (.lst vs)) (z : vs.length ≤ sizeLine) (r : DenAll K G vs xs) (q' : G b = some (.lst ws)) (z' : ws.length ≤ sizeLine) (r' : DenAll K G ws ys) : ItD true K (Itz K a b) (zipD xs ys) G where
  len := by rw [zipD_len, ← r.length]; exact Nat.le_trans (Nat.min_le_left _ _) z
  go := fun i H s hi => by
    rw [zipD_len, ← r.length, ← r'.length] at hi
    exact ⟨vs, ws, vs[i], ws[i], SqL.of (s _ _ q), SqL.of (s _ _ q'), List.getElem?_eq_getElem _, List.getElem?_eq_getElem _⟩
  stop := fun i H s hi _ => by
    rw [zipD_len, ← r.length, ← r'.length] at hi
    exact ⟨vs, ws, SqL.of (s _ _ q), SqL.of (s _ _ q'), by omega⟩
  yld := fun i H x H' s hi ⟨T, y, y2, ev, hT, eh, hy, hy2⟩ => by
    subst ev eh
    obtain ⟨d, h1, h2⟩ := r.getV (hy vs (SqL.of (s _ _ q)))
    obtain ⟨d2, h3, h4⟩ := r'.getV (hy2 ws (SqL.of (s _ _ q')))
    refine ⟨.tuple [d, d2], zipD_get h1 h3, fun G0 s0 s1 => ⟨upd G0 T (.tup [y, y2]), .upd s1 hT, ?_⟩⟩
    exact .inr ⟨rfl, _, _, _, rfl, rfl, .inl (.inl upd_same), (by show 2 ≤ sizeLine; decide), .cons ((h2.mono s0).at_new (s1.free hT)) (.cons ((h4.mono s0).at_new (s1.free hT)) .nil)⟩
theorem itd_zipT {a b : Addr} {vs ws : List V} {xs ys : List D} (q : SqT K G a vs) (z : vs.length ≤ sizeLine) (r : DenAll K G vs xs) (q' : SqT K G b ws) (z' : ws.length ≤ sizeLine) (r' : DenAll K G ws ys) : ItD true K (RZ.ItzT K a b) (zipD xs ys) G where
  len := by rw [zipD_len, ← r.length]; exact Nat.le_trans (Nat.min_le_left _ _) z
  go := fun i H s hi => by
    rw [zipD_len, ← r.length, ← r'.length] at hi
    exact ⟨vs, ws, vs[i], ws[i], sqt_mono s q, sqt_mono s q', List.getElem?_eq_getElem _, List.getElem?_eq_getElem _⟩
  stop := fun i H s hi _ => by
    rw [zipD_len, ← r.length, ← r'.length] at hi
    exact ⟨vs, ws, sqt_mono s q, sqt_mono s q', by omega⟩
  yld := fun i H x H' s hi ⟨T, y, y2, ev, hT, eh, hy, hy2⟩ => by
    subst ev eh
    obtain ⟨d, h1, h2⟩ := r.getV (hy vs (sqt_mono s q))
    obtain ⟨d2, h3, h4⟩ := r'.getV (hy2 ws (sqt_mono s q'))
    refine ⟨.tuple [d, d2], zipD_get h1 h3, fun G0 s0 s1 => ⟨upd G0 T (.tup [y, y2]), .upd s1 hT, ?_⟩⟩
    exact .inr ⟨rfl, _, _, _, rfl, rfl, .inl (.inl upd_same), (by show 2 ≤ sizeLine; decide), .cons ((h2.mono s0).at_new (s1.free hT)) (.cons ((h4.mono s0).at_new (s1.free hT)) .nil)⟩
def zip2 : List D → Option (List D)
  | [.list xs, .list ys] => some (zipD xs ys)
  | [.tuple xs, .tuple ys] => some (zipD xs ys)
  | _ => none
theorem pi_zp (hg : Gl X "zip") (hm : X.mg "zip" = none) (ha : PA X [e, e2] (tPA X.K g1))
    (hs : starEach [e, e2] X.env = (false, eval e X.env) :: starEach [e2] X.env := by rfl) (hpl : (backTo pos (starEach [e2] X.env)).any (·.1) = false := by rfl) :
    PI X (.Tuple elts kk tpos) (.Call (.Name "zip" p) [e, e2] [] pos) (tI true X.K (gArgs g1 zip2)) :=
  PI.imp (RZ.pi_zipA hg hm ha hs hpl) fun σ H R ⟨G, ds, xs, s, w, e, k⟩ => by
    unfold gArgs at e
    cases ea : g1 ds with
    | none => rw [ea] at e; cases e
    | some as =>
      rw [ea] at e
      match as, e with
      | [.list ys, .list zs], e =>
        cases e
        refine ⟨G, ds, _, s, w, ea, fun vs G1 H1 g1 d1 => ?_⟩
        match vs, d1 with
        | _, .cons (.lst q z r) (.cons (.lst q' z' r') .nil) => exact ⟨_, _, _, _, rfl, .inl ⟨SqL.of (g1.sub _ _ q), SqL.of (g1.sub _ _ q'), k _ G1 H1 g1 (itd_zipL q z r q' z' r')⟩⟩
      | [.tuple ys, .tuple zs], e =>
        cases e
        refine ⟨G, ds, _, s, w, ea, fun vs G1 H1 g1 d1 => ?_⟩
        match vs, d1 with
        | _, .cons (.tup q z r) (.cons (.tup q' z' r') .nil) => exact ⟨_, _, _, _, rfl, .inr ⟨sqt_mono g1.sub q.sq, sqt_mono g1.sub q'.sq, k _ G1 H1 g1 (itd_zipT q.sq z r q'.sq z' r')⟩⟩
end
def lcRun (f : D → Option (Option D)) : List D → Option (List D)
  | [] => some []
  | x :: xs => (f x).bind fun o => (lcRun f xs).bind fun ys => some (match o with
    | some y => y :: ys
    | none => ys)
def lcOne {S : Type} (ds : DS S) (own : List Nat) (t : D → Option (List (Nat × D))) (h : DS S → Option Bool) (g : DS S → Option D) : D → Option (Option D) := fun x =>
  (t x).bind fun as => (h (setD (wipeD ds own) as)).bind fun b => if b then (g (setD (wipeD ds own) as)).map some else some none
def gLc {S : Type} (src : DS S → Option (List D)) (own : List Nat) (t : D → Option (List (Nat × D))) (h : DS S → Option Bool) (g : DS S → Option D) : DS S → Option (List D) := fun ds => (src ds).bind fun xs => lcRun (lcOne ds own t h g) xs
def gYes {S : Type} : DS S → Option Bool := fun _ => some true
section
variable {S : Type} {K : PySem.W.Frag} {src : DS S → Option (List D)} {own : List Nat} {t : D → Option (List (Nat × D))} {h : DS S → Option Bool} {g : DS S → Option D} {tg : TG}
theorem p_lc {W : Bool} (ht : TGD W K tg t) (ho : ∀ d as, t d = some as → ∀ p ∈ as, p.1 ∈ own) {σ : L2.St} {H : Hp} {Q : VK} (w0 : tF K (gLc src own t h g) σ H Q) : tLc (tI W K src) tg (tPT K h) (tP K g) own σ H Q := by
  obtain ⟨G, ds, ys, s, w, e, k⟩ := w0
  unfold gLc at e
  cases ea : src ds with
  | none => rw [ea] at e; cases e
  | some xs =>
    rw [ea] at e
    simp only [Option.bind_some] at e
    refine ⟨G, ds, xs, s, w, ea, fun J G1 H1 g1 it => fun A hA => ?_⟩
    have hGA : G1 A = none := g1.sub.free hA
    refine ⟨fun i m Hc => m = xs.length - i ∧ i ≤ xs.length ∧ ∃ Gc vs done rest, Gr G H Gc Hc ∧ Same G1 Gc ∧ Gc A = none ∧ Hc A = some (.lst vs) ∧ vs.length ≤ i ∧ DenAll K Gc vs done ∧ lcRun (lcOne ds own t h g) (xs.drop i) = some rest ∧ ys = done ++ rest,
      ⟨xs.length, rfl, Nat.zero_le _, G1, [], [], ys, g1.trans (.own g1.sub hA), Same.refl _, hGA, upd_same, Nat.le_refl _, .nil, by simpa using e, by simp⟩, ?_⟩
    rintro i m Hc ⟨rfl, hi, Gc, vs, done, rest, gc, sc, nA, eA, lv, dv, er, ey⟩
    by_cases hlt : i < xs.length
    · refine .inr ⟨it.go i Hc (subT sc gc.sub) hlt, fun H' => ∃ m', m' < xs.length - i ∧ (m' = xs.length - (i + 1) ∧ i + 1 ≤ xs.length ∧ ∃ Gc vs done rest, Gr G H Gc H' ∧ Same G1 Gc ∧ Gc A = none ∧ H' A = some (.lst vs) ∧ vs.length ≤ i + 1 ∧ DenAll K Gc vs done ∧ lcRun (lcOne ds own t h g) (xs.drop (i + 1)) = some rest ∧ ys = done ++ rest), fun H' x => x, fun x H' y => ?_⟩
      obtain ⟨d, hd, grow⟩ := it.yld i Hc x H' (subT sc gc.sub) hlt y
      obtain ⟨Ga, ga, dx⟩ := grow Gc sc gc.sub
      have hdrop : xs.drop i = d :: xs.drop (i + 1) := by
        rw [List.drop_eq_getElem_cons hlt]
        rw [List.getElem?_eq_getElem hlt] at hd
        cases hd
        rfl
      rw [hdrop] at er
      unfold lcRun at er
      cases ef : lcOne ds own t h g d with
      | none => rw [ef] at er; cases er
      | some o =>
        rw [ef] at er
        simp only [Option.bind_some] at er
        cases e2 : lcRun (lcOne ds own t h g) (xs.drop (i + 1)) with
        | none => rw [e2] at er; cases er
        | some rest2 =>
          rw [e2] at er
          simp only [Option.bind_some] at er
          unfold lcOne at ef
          cases et : t d with
          | none => rw [et] at ef; cases ef
          | some as =>
            rw [et] at ef
            simp only [Option.bind_some] at ef
            refine ht x d as _ Ga H' _ ga.sub dx et fun ws aw => ?_
            refine ⟨by rw [wipe_setAll (asgV_slots aw (ho d as et)), wipe_wipe], ?_⟩
            have wv : View K Ga (setAll (wipe σ own) ws) (setD (wipeD ds own) as) := ((w.mono (gc.trans ga).keep).wipe own).setAll aw
            cases eh : h (setD (wipeD ds own) as) with
            | none => rw [eh] at ef; cases ef
            | some b =>
              rw [eh] at ef
              simp only [Option.bind_some] at ef
              refine ⟨Ga, _, b, ga.sub, wv, eh, fun G3 H3 g3 => ?_⟩
              have nA3 : G3 A = none := by
                cases q : G3 A with
                | none => rfl
                | some o' =>
                  rcases g3.new A (by rw [q]; simp) with z | z
                  · rcases ga.new A z with z | z
                    · exact absurd nA z
                    · rw [eA] at z; cases z
                  · rw [ga.all.nt eA] at z; cases z
              cases b with
              | false =>
                refine iteF ?_
                rw [if_neg Bool.false_ne_true] at ef
                cases ef
                refine ⟨xs.length - (i + 1), by omega, rfl, hlt, G3, vs, done, rest2, (gc.trans ga).trans g3, sc.trans (ga.trans g3).keep, nA3, (ga.trans g3).all.nt eA, Nat.le_succ_of_le lv, dv.mono (ga.trans g3).keep, rfl, ?_⟩
                cases er
                exact ey
              | true =>
                refine iteT ?_
                rw [if_pos rfl] at ef
                cases eg : g (setD (wipeD ds own) as) with
                | none => rw [eg] at ef; cases ef
                | some y0 =>
                  rw [eg] at ef
                  cases ef
                  refine ⟨G3, _, y0, g3.sub, wv.mono g3.keep, eg, fun v G4 H4 g4 dy => ?_⟩
                  have nA4 : G4 A = none := by
                    cases q : G4 A with
                    | none => rfl
                    | some o' =>
                      rcases g4.new A (by rw [q]; simp) with z | z
                      · exact absurd nA3 z
                      · rw [(ga.trans g3).all.nt eA] at z; cases z
                  have eA4 := ((ga.trans g3).trans g4).all.nt eA
                  refine ⟨vs, eA4, by have := it.len; omega, ?_⟩
                  have gg := ((gc.trans ga).trans g3).trans g4
                  have hHA : H A = none := g1.all.free hA
                  refine ⟨xs.length - (i + 1), by omega, rfl, hlt, G4, vs ++ [v], done ++ [y0], rest2, ⟨gg.keep, gg.sub.put nA4 eA4, fun b u q => ?_, gg.new⟩, sc.trans ((ga.trans g3).trans g4).keep, nA4, upd_same, by rw [List.length_append]; simpa using lv, (dv.mono ((ga.trans g3).trans g4).keep).append (.cons dy .nil), rfl, ?_⟩
                  · rw [upd_ne (ne_of_none q hHA)]; exact gg.all b u q
                  · cases er
                    rw [ey, List.append_assoc]
                    rfl
    · have e' : i = xs.length := by omega
      subst e'
      refine .inl ⟨it.stop _ Hc (subT sc gc.sub) (Nat.le_refl _) (Nat.le_refl _), ?_⟩
      rw [List.drop_length] at er
      cases er
      rw [List.append_nil] at ey
      subst ey
      exact k A vs Gc Hc gc nA (g1.all.free hA) eA (Nat.le_trans lv it.len) dv
theorem pts_yes {X : Cx} : PTs X [] (tPT (S := S) X.K gYes) := PTs.imp pts_nil fun σ H Q ⟨G, ds, b, s, w, e, k⟩ => by
  cases e
  exact k G H (.refl s)
end
end
section
variable {TBL : TabL}
def RCD [TabL] (K : PySem.W.Frag) (r : List V → Hp → VK → Prop) (g : List D → Option D) : Prop := ∀ vs ds d G H (Q : VK), Sub G H → DenAll K G vs ds → g ds = some d → (∀ v G' H', Gr G H G' H' → Den K G' v d → Q v H') → r vs H Q
def RCF [TabL] (K : PySem.W.Frag) (r : List V → Hp → VK → Prop) (g : List D → Option (List D)) : Prop := ∀ vs ds xs G H (Q : VK), Sub G H → DenAll K G vs ds → g ds = some xs →
  (∀ p vs G' H', Gr G H G' H' → G' p = none → H p = none → H' p = some (.lst vs) → vs.length ≤ sizeLine → DenAll K G' vs xs → Q (.ref p) H') → r vs H Q
def gCall {S : Type} (g : DS S → Option (List D)) (f : List D → Option D) : DS S → Option D := fun ds => (g ds).bind f
section
variable {S : Type} {X : Cx} {K : PySem.W.Frag} {x : Str} {p pos : Pos} {e o : Expr} {es : List Expr} {ga : DS S → Option D} {gs : DS S → Option (List D)} {bid T : String}
theorem p_cb {r : List V → Hp → VK → Prop} {f : List D → Option D} (hr : RCD K r f) {σ : L2.St} {H : Hp} {Q : VK} (h : tP K (gCall gs f) σ H Q) : tCB r (tPA K gs) σ H Q := by
  obtain ⟨G, ds, d, s, w, e, k⟩ := h
  unfold gCall at e
  cases ea : gs ds with
  | none => rw [ea] at e; cases e
  | some xs =>
    rw [ea] at e
    exact ⟨G, ds, xs, s, w, ea, fun vs G1 H1 g1 d1 => hr vs xs d G1 H1 Q g1.sub d1 e fun v G2 H2 g2 d2 => k v G2 H2 (g1.trans g2) d2⟩
theorem p_cbF {r : List V → Hp → VK → Prop} {f : List D → Option (List D)} (hr : RCF K r f) {σ : L2.St} {H : Hp} {Q : VK} (h : tF K (gArgs gs f) σ H Q) : tCB r (tPA K gs) σ H Q := by
  obtain ⟨G, ds, d, s, w, e, k⟩ := h
  unfold gArgs at e
  cases ea : gs ds with
  | none => rw [ea] at e; cases e
  | some xs =>
    rw [ea] at e
    exact ⟨G, ds, xs, s, w, ea, fun vs G1 H1 g1 d1 => hr vs xs d G1 H1 Q g1.sub d1 e fun p vs G2 H2 g2 h1 h2 h3 z d2 => k p vs G2 H2 (g1.trans g2) h1 (g1.all.free h2) h3 z d2⟩
theorem ep_cb {r : List V → Hp → VK → Prop} {f : List D → Option D} (hc : CallR X (.builtin bid) r) (hr : RCD X.K r f) (hg : Gl X x) (hm : X.mg x = none) (hv : bootBuiltins x = some (.builtin bid)) (ha : PA X (e :: es) (tPA X.K gs)) (hn : x ≠ "__name__" := by decide) (hdb : (x == ("__debug__" : Str)) = false := by decide)
    (he : starEach (e :: es) X.env = (false, eval e X.env) :: starEach es X.env := by rfl) (hpl : (backTo pos (starEach es X.env)).any (·.1) = false := by rfl) : PE X (.Call (.Name x p) (e :: es) [] pos) (tP X.K (gCall gs f)) :=
  PE.imp (pe_callB hc hg hm hv ha hn hdb he hpl) fun _ _ _ h => p_cb hr h
theorem ep_ct {r : List V → Hp → VK → Prop} {f : List D → Option D} (hc : CallR X (.type T) r) (hr : RCD X.K r f) (hg : Gl X x) (hm : X.mg x = none) (hv : bootBuiltins x = some (.type T)) (ha : PA X (e :: es) (tPA X.K gs)) (hn : x ≠ "__name__" := by decide) (hdb : (x == ("__debug__" : Str)) = false := by decide)
    (he : starEach (e :: es) X.env = (false, eval e X.env) :: starEach es X.env := by rfl) (hpl : (backTo pos (starEach es X.env)).any (·.1) = false := by rfl) : PE X (.Call (.Name x p) (e :: es) [] pos) (tP X.K (gCall gs f)) :=
  PE.imp (pe_callTy hc hg hm hv ha hn hdb he hpl) fun _ _ _ h => p_cb hr h
theorem ef_ct {r : List V → Hp → VK → Prop} {f : List D → Option (List D)} (hc : CallR X (.type T) r) (hr : RCF X.K r f) (hg : Gl X x) (hm : X.mg x = none) (hv : bootBuiltins x = some (.type T)) (ha : PA X (e :: es) (tPA X.K gs)) (hn : x ≠ "__name__" := by decide) (hdb : (x == ("__debug__" : Str)) = false := by decide)
    (he : starEach (e :: es) X.env = (false, eval e X.env) :: starEach es X.env := by rfl) (hpl : (backTo pos (starEach es X.env)).any (·.1) = false := by rfl) : PE X (.Call (.Name x p) (e :: es) [] pos) (tF X.K (gArgs gs f)) :=
  PE.imp (pe_callTy hc hg hm hv ha hn hdb he hpl) fun _ _ _ h => p_cbF hr h
def lenD : List D → Option D
  | [.str x] => some (.int x.length)
  | [.list xs] => some (.int xs.length)
  | [.tuple xs] => some (.int xs.length)
  | _ => none
theorem d_len : RCD K (fun xs H Q => ∃ x n, xs = [x] ∧ LenV K x H n ∧ Q (.int n) H) lenD := by
  intro vs ds d G H Q s da e k
  match ds, e with
  | [.str x], e =>
    match vs, da with
    | _, .cons (.str _ z o) .nil => cases e; exact ⟨_, _, rfl, ⟨z, rfl⟩, k _ G H (.refl s) (.int _)⟩
  | [.list ys], e =>
    match vs, da with
    | _, .cons (.lst q z r) .nil => cases e; exact ⟨_, _, rfl, .inl ⟨_, SqL.of (s _ _ q), rfl⟩, k _ G H (.refl s) (by rw [r.length]; exact .int _)⟩
  | [.tuple ys], e =>
    match vs, da with
    | _, .cons (.tup q z r) .nil => cases e; exact ⟨_, _, rfl, .inr ⟨_, sqt_mono s q.sq, rfl⟩, k _ G H (.refl s) (by rw [r.length]; exact .int _)⟩
def min2 : List D → Option D
  | [.int i, .int j] => some (.int (if j < i then j else i))
  | _ => none
def max2 : List D → Option D
  | [.int i, .int j] => some (.int (if j > i then j else i))
  | _ => none
theorem d_min2 : RCD K (fun xs H Q => ∃ i j, xs = [.int i, .int j] ∧ Q (.int (if j < i then j else i)) H) min2 := by
  intro vs ds d G H Q s da e k
  match ds, e with
  | [.int i, .int j], e =>
    match vs, da with
    | _, .cons (.int _) (.cons (.int _) .nil) => cases e; exact ⟨i, j, rfl, k _ G H (.refl s) (.int _)⟩
theorem d_max2 : RCD K (fun xs H Q => ∃ i j, xs = [.int i, .int j] ∧ Q (.int (if j > i then j else i)) H) max2 := by
  intro vs ds d G H Q s da e k
  match ds, e with
  | [.int i, .int j], e =>
    match vs, da with
    | _, .cons (.int _) (.cons (.int _) .nil) => cases e; exact ⟨i, j, rfl, k _ G H (.refl s) (.int _)⟩
def absD : List D → Option D
  | [.int i] => some (.int (if i < 0 then -i else i))
  | _ => none
theorem d_abs : RCD K (fun xs H Q => ∃ i, xs = [.int i] ∧ Q (.int (if i < 0 then -i else i)) H) absD := by
  intro vs ds d G H Q s da e k
  match ds, e with
  | [.int i], e =>
    match vs, da with
    | _, .cons (.int _) .nil => cases e; exact ⟨i, rfl, k _ G H (.refl s) (.int _)⟩
def intD : List D → Option D
  | [.int i] => some (.int i)
  | [.bool b] => some (.int (if b then 1 else 0))
  | _ => none
theorem d_int : RCD K (fun xs H Q => (∃ i, xs = [.int i] ∧ Q (.int i) H) ∨ ∃ k, xs = [.bl k] ∧ Q (.int (if k then 1 else 0)) H) intD := by
  intro vs ds d G H Q s da e k
  match ds, e with
  | [.int i], e =>
    match vs, da with
    | _, .cons (.int _) .nil => cases e; exact .inl ⟨i, rfl, k _ G H (.refl s) (.int _)⟩
  | [.bool b], e =>
    match vs, da with
    | _, .cons (.bl _) .nil => cases e; exact .inr ⟨b, rfl, k _ G H (.refl s) (.int _)⟩
def listD : List D → Option (List D)
  | [.list xs] => some xs
  | [.tuple xs] => some xs
  | _ => none
theorem d_list : RCF K (fun xs H Q => ∃ p ys, xs = [.ref p] ∧ (SqL K H p ys ∨ SqT K H p ys) ∧ ∀ l, H l = none → Q (.ref l) (upd H l (.lst ys))) listD := by
  intro vs ds d G H Q s da e k
  match ds, e with
  | [.list ys], e =>
    match vs, da with
    | _, .cons (.lst q z r) .nil => cases e; exact ⟨_, _, rfl, .inl (SqL.of (s _ _ q)), fun l hl => k l _ G _ (.own s hl) (s.free hl) hl upd_same z r⟩
  | [.tuple ys], e =>
    match vs, da with
    | _, .cons (.tup q z r) .nil => cases e; exact ⟨_, _, rfl, .inr (sqt_mono s q.sq), fun l hl => k l _ G _ (.own s hl) (s.free hl) hl upd_same z r⟩
def tupleD : List D → Option D
  | [.list xs] => some (.tuple xs)
  | [.tuple xs] => some (.tuple xs)
  | _ => none
theorem d_tuple : RCD K (fun xs H Q => ∃ p ys, xs = [.ref p] ∧ ((SqL K H p ys ∧ ∀ l o, o.dict = none → H l = none → Q (.ref l) (upd H l (.frz o (.tup ys)))) ∨ (SqT K H p ys ∧ Q (.ref p) H))) tupleD := by
  intro vs ds d G H Q s da e k
  match ds, e with
  | [.list ys], e =>
    match vs, da with
    | _, .cons (.lst q z r) .nil =>
      cases e
      exact ⟨_, _, rfl, .inl ⟨SqL.of (s _ _ q), fun l o dn hl => k _ (upd G l _) _ (.upd s hl) (.tup (PqT.new dn) z (r.mono fun b u e => by rw [upd_ne (ne_of_none e (s.free hl))]; exact e))⟩⟩
  | [.tuple ys], e =>
    match vs, da with
    | _, .cons (.tup q z r) .nil => cases e; exact ⟨_, _, rfl, .inr ⟨sqt_mono s q.sq, k _ G H (.refl s) (.tup q z r)⟩⟩
def boolsOf : List D → Option (List Bool)
  | [] => some []
  | .bool b :: r => (boolsOf r).map (b :: ·)
  | _ => none
def strsOf : List D → Option (List Str)
  | [] => some []
  | .str b :: r => (strsOf r).map (b :: ·)
  | _ => none
theorem bools_den {G : Hp} : ∀ {vs : List V} {ds : List D} {bs : List Bool}, DenAll K G vs ds → boolsOf ds = some bs → vs = bs.map V.bl
  | _, _, _, .nil, e => by cases e; rfl
  | _, _, _, .cons (d := d) (ds := ds) h r, e => by
    cases h with
    | bl b =>
      simp only [boolsOf] at e
      cases eq : boolsOf ds with
      | none => rw [eq] at e; cases e
      | some bs => rw [eq] at e; cases e; rw [bools_den r eq]; rfl
    | _ => cases e
theorem strs_den {G : Hp} : ∀ {vs : List V} {ds : List D} {bs : List Str}, DenAll K G vs ds → strsOf ds = some bs → vs = bs.map V.str
  | _, _, _, .nil, e => by cases e; rfl
  | _, _, _, .cons (d := d) (ds := ds) h r, e => by
    cases h with
    | str b _ _ =>
      simp only [strsOf] at e
      cases eq : strsOf ds with
      | none => rw [eq] at e; cases e
      | some bs => rw [eq] at e; cases e; rw [strs_den r eq]; rfl
    | _ => cases e
def allD : List D → Option D
  | [.list xs] => (boolsOf xs).map fun bs => .bool (bs.all fun b => b)
  | _ => none
theorem d_all : RCD K (rAll K) allD := by
  intro vs ds d G H Q s da e k
  match ds, e with
  | [.list ds], e =>
    match vs, da with
    | _, .cons (.lst q z r) .nil =>
      simp only [allD] at e
      cases eq : boolsOf ds with
      | none => rw [eq] at e; cases e
      | some bs =>
        rw [eq] at e
        cases e
        have hv := bools_den r eq
        subst hv
        exact ⟨_, bs, rfl, SqL.of (s _ _ q), k _ G H (.refl s) (.bl _)⟩
def least : List Int → Option Int
  | [] => none
  | x :: xs => some (xs.foldl min x)
def tyD : D → String
  | .none => "NoneType" | .bool _ => "bool" | .int _ => "int" | .str _ => "str" | .list _ => "list" | .tuple _ => "tuple" | .dict [] => "dict" | .dict ((.none, .bool true) :: _) => "dict" | .dict (_ :: _) => "?"
theorem tyX_den {G H : Hp} {v : V} {d : D} (s : Sub G H) (h : Den K G v d) (nq : tyD d ≠ "?") : TyX K H v (.type (tyD d)) := by
  cases h with
  | non => exact .base .non
  | bl b => exact .base (.bl _)
  | int i => exact .base (.int _)
  | str x _ _ => exact .base (.str _)
  | lst q z r => exact .base (.lst (s _ _ q))
  | emp q => exact .base (.dK (s _ _ q))
  | dct q _ _ => exact .base (.dK (s _ _ q))
  | obj _ _ _ => exact absurd rfl nq
  | tup q z r =>
    rcases q with ⟨o, q, _⟩ | ⟨o, its, n, q, c, _⟩
    · exact .fTuple (s _ _ q)
    · exact .kTuple q c
theorem kitB_q {T : String} (h : T ≠ "?") : kitB "?" T = none := by
  unfold kitB
  rw [if_neg (by
    intro z
    have z' : Value.type "?" = Value.type T := by simpa using z
    injection z' with z'
    exact h z'.symm)]
  split
  · rw [show PySem.fastBuiltinMro "?" = none from by decide +kernel]
    rfl
  · rfl
theorem ty_nq {T : String} (h : T ≠ "?") {d : D} {b : Bool} (e : kitB (tyD d) T = some b) : tyD d ≠ "?" := fun z => by
  rw [z, kitB_q h] at e
  cases e
def gIsi (T : String) (g : DS S → Option D) : DS S → Option D := fun ds => (g ds).bind fun d => (kitB (tyD d) T).map .bool
theorem ep_isi {T : String} {ty : Str} {p2 : Pos} {v2 : Value} (hg : Gl X "isinstance") (hm : X.mg "isinstance" = none) (ha : PE X e (tP X.K ga)) (hT : PE X (.Name ty p2) (tC (.ty T)))
    (he : starEach (e :: [Expr.Name ty p2]) X.env = (false, eval e X.env) :: starEach [Expr.Name ty p2] X.env := by rfl) (he2 : starEach [Expr.Name ty p2] X.env = (false, eval (.Name ty p2) X.env) :: starEach [] X.env := by rfl) (hpl : (backTo pos (starEach [Expr.Name ty p2] X.env)).any (·.1) = false := by rfl) (hq : T ≠ "?" := by decide) :
    PE X (.Call (.Name "isinstance" p) [e, .Name ty p2] [] pos) (tP X.K (gIsi T ga)) :=
  PE.imp (pe_callB call_isi hg hm (by decide +kernel) (pa_cons ha (pa_cons hT pa_nil he2) he) (by decide) (by decide) he hpl) fun σ H Q ⟨G, ds, d, s, w, e, k⟩ => by
    unfold gIsi at e
    cases ea : ga ds with
    | none => rw [ea] at e; cases e
    | some x =>
      rw [ea] at e
      simp only [Option.bind_some] at e
      cases eq : kitB (tyD x) T with
      | none => rw [eq] at e; cases e
      | some b =>
        rw [eq] at e
        cases e
        refine ⟨G, ds, x, s, w, ea, fun v G1 H1 g1 d1 => ?_⟩
        exact ⟨v, .ty T, _, _, b, rfl, .ty T, tyX_den g1.sub d1 (ty_nq hq eq), kit_ty eq, k _ G1 H1 g1 (.bl _)⟩
mutual
theorem noD_self : ∀ {d : D}, PySem.W.alike d d = true → noD d = true
  | .none, _ => rfl
  | .bool _, _ => rfl
  | .int _, _ => rfl
  | .str _, _ => rfl
  | .list xs, h => by unfold PySem.W.alike at h; exact noDAll_self h
  | .tuple xs, h => by unfold PySem.W.alike at h; exact noDAll_self h
  | .dict _, h => by unfold PySem.W.alike at h; cases h
theorem noDAll_self : ∀ {ds : List D}, PySem.W.alikeAll ds ds = true → noDAll ds = true
  | [], _ => rfl
  | x :: xs, h => by
    unfold PySem.W.alikeAll at h
    obtain ⟨h1, h2⟩ := Bool.and_eq_true_iff.mp h
    unfold noDAll
    rw [noD_self h1, noDAll_self h2]
    rfl
end
def sortD (ds : List D) : List D := ds.mergeSort (PySem.W.dataLe false fun d => d)
end
end
section
variable {TBL : TabL}
structure StI (S : Type) where
  rel : Hp → Hp → V → S → (Addr → Prop) → Prop
  frame : ∀ {G G' H H' : Hp} {v : V} {s : S} {fp : Addr → Prop}, rel G H v s fp → SameX G G' → (∀ a, fp a → H' a = H a) → rel G' H' v s fp
  trk : ∀ {G H : Hp} {v : V} {s : S} {fp : Addr → Prop}, rel G H v s fp → ∀ a, fp a → H a ≠ none
  ntb : ∀ {G H : Hp} {v : V} {s : S} {fp : Addr → Prop}, rel G H v s fp → ∀ a, fp a → ∀ o, H a = some o → NT o
def FVAt (K : PySem.W.Frag) (G H : Hp) (v : V) (m : FV) (fp : Addr → Prop) : Prop :=
  match m with
  | .d x => Den K G v x ∧ ∀ a, ¬ fp a
  | .l xs => ∃ p vs, v = .ref p ∧ H p = some (.lst vs) ∧ vs.length ≤ sizeLine ∧ DenAll K G vs xs ∧ ∀ a, fp a ↔ a = p
  | .k kvs => ∃ p xs, v = .ref p ∧ H p = some (.dK xs) ∧ xs.length ≤ sizeLine ∧ KVsD K G xs kvs ∧ ∀ a, fp a ↔ a = p
inductive FsAt (K : PySem.W.Frag) (G H : Hp) : List (Str × V) → List (Str × FV) → (Addr → Prop) → Prop
  | nil {fp : Addr → Prop} : (∀ a, ¬ fp a) → FsAt K G H [] [] fp
  | cons {f : Str} {v : V} {m : FV} {r : List (Str × V)} {s : List (Str × FV)} {f1 f2 fp : Addr → Prop} : FVAt K G H v m f1 → FsAt K G H r s f2 → (∀ a, f1 a → ¬ f2 a) → (∀ a, fp a ↔ f1 a ∨ f2 a) → FsAt K G H ((f, v) :: r) ((f, m) :: s) fp
section
variable {K : PySem.W.Frag} {G H G' H' : Hp}
theorem FVAt.trk {v : V} {m : FV} {fp : Addr → Prop} (h : FVAt K G H v m fp) : ∀ a, fp a → H a ≠ none := fun a ha => by
  cases m with
  | d x => exact absurd ha (h.2 a)
  | l xs =>
    obtain ⟨p, vs, _, e, _, _, q⟩ := h
    rw [(q a).mp ha, e]
    simp
  | k kvs =>
    obtain ⟨p, xs, _, e, _, _, q⟩ := h
    rw [(q a).mp ha, e]
    simp
theorem FVAt.ntb {v : V} {m : FV} {fp : Addr → Prop} (h : FVAt K G H v m fp) : ∀ a, fp a → ∀ o, H a = some o → NT o := fun a ha o e2 => by
  cases m with
  | d x => exact absurd ha (h.2 a)
  | l xs =>
    obtain ⟨p, vs, _, e, _, _, q⟩ := h
    rw [(q a).mp ha, e] at e2
    cases e2
    exact nt_lst
  | k kvs =>
    obtain ⟨p, xs, _, e, _, _, q⟩ := h
    rw [(q a).mp ha, e] at e2
    cases e2
    exact nt_dK
theorem FVAt.mono {v : V} {m : FV} {fp : Addr → Prop} (h : FVAt K G H v m fp) (s : Same G G') (k : ∀ a, fp a → H' a = H a) : FVAt K G' H' v m fp := by
  cases m with
  | d x => exact ⟨h.1.mono s, h.2⟩
  | l xs =>
    obtain ⟨p, vs, e0, e, z, d, q⟩ := h
    exact ⟨p, vs, e0, by rw [k p ((q p).mpr rfl)]; exact e, z, d.mono s, q⟩
  | k kvs =>
    obtain ⟨p, xs, e0, e, z, d, q⟩ := h
    exact ⟨p, xs, e0, by rw [k p ((q p).mpr rfl)]; exact e, z, d.mono s, q⟩
theorem FsAt.trk : ∀ {vs : List (Str × V)} {fs : List (Str × FV)} {fp : Addr → Prop}, FsAt K G H vs fs fp → ∀ a, fp a → H a ≠ none
  | _, _, _, .nil n, a, ha => absurd ha (n a)
  | _, _, _, .cons h r _ e, a, ha => ((e a).mp ha).elim (h.trk a) (FsAt.trk r a)
theorem FsAt.ntb : ∀ {vs : List (Str × V)} {fs : List (Str × FV)} {fp : Addr → Prop}, FsAt K G H vs fs fp → ∀ a, fp a → ∀ o, H a = some o → NT o
  | _, _, _, .nil n, a, ha, _, _ => absurd ha (n a)
  | _, _, _, .cons h r _ e, a, ha, o, e2 => ((e a).mp ha).elim (fun z => h.ntb a z o e2) (fun z => FsAt.ntb r a z o e2)
theorem FsAt.mono : ∀ {vs : List (Str × V)} {fs : List (Str × FV)} {fp : Addr → Prop}, FsAt K G H vs fs fp → Same G G' → (∀ a, fp a → H' a = H a) → FsAt K G' H' vs fs fp
  | _, _, _, .nil n, s, k => .nil n
  | _, _, _, .cons h r d e, s, k => .cons (h.mono s fun a ha => k a ((e a).mpr (.inl ha))) (FsAt.mono r s fun a ha => k a ((e a).mpr (.inr ha))) d e
theorem kvs_den : ∀ {xs : List (Key × V)} {kvs : List (Key × D)}, KVsD K G xs kvs → DenKV K G xs (encKs kvs)
  | _, _, .nil => .nil
  | _, _, .cons a b r => .cons a b (kvs_den r)
theorem FVAt.den {v : V} {m : FV} {fp : Addr → Prop} (h : FVAt K G H v m fp) (s : Same G G') (k : ∀ a, fp a → G' a = H a) : Den K G' v (fvD m) := by
  cases m with
  | d x => exact h.1.mono s
  | l xs =>
    obtain ⟨p, vs, rfl, e, z, d, q⟩ := h
    exact .lst (by rw [k p ((q p).mpr rfl)]; exact e) z (d.mono s)
  | k kvs =>
    obtain ⟨p, xs, rfl, e, z, d, q⟩ := h
    exact .dct (by rw [k p ((q p).mpr rfl)]; exact e) z (kvs_den (d.mono s))
theorem FsAt.den : ∀ {vs : List (Str × V)} {fs : List (Str × FV)} {fp : Addr → Prop}, FsAt K G H vs fs fp → Same G G' → (∀ a, fp a → G' a = H a) → DenFs K G' vs (fsD fs)
  | _, _, _, .nil n, s, k => .nil
  | _, _, _, .cons h r d e, s, k => .cons (h.den s fun a ha => k a ((e a).mpr (.inl ha))) (FsAt.den r s fun a ha => k a ((e a).mpr (.inr ha)))
theorem FsAt.kind : ∀ {vs : List (Str × V)} {fs : List (Str × FV)} {fp : Addr → Prop}, FsAt K G H vs fs fp → ∀ a, fp a → (∃ ws, H a = some (.lst ws)) ∨ ∃ xs, H a = some (.dK xs)
  | _, _, _, .nil n, a, ha => absurd ha (n a)
  | _, _, _, .cons (m := m) h r _ e, a, ha => by
    rcases (e a).mp ha with z | z
    · cases m with
      | d x => exact absurd z (h.2 a)
      | l xs => obtain ⟨p, vs, _, q, _, _, n⟩ := h; exact .inl ⟨vs, by rw [(n a).mp z]; exact q⟩
      | k kvs => obtain ⟨p, vs, _, q, _, _, n⟩ := h; exact .inr ⟨vs, by rw [(n a).mp z]; exact q⟩
    · exact FsAt.kind r a z
end
def ovr (B G : Hp) : Hp := fun a => match B a with
  | some o => some o
  | none => G a
theorem ovr_mono {B G G' : Hp} (s : Same G G') : Same (ovr B G) (ovr B G') := fun a o e => by
  unfold ovr at e ⊢
  cases h : B a with
  | some u => rw [h] at e; exact e
  | none => rw [h] at e; exact s a o e
def noL (G : Hp) : Hp := fun a => match G a with
  | some (.lst _) => none
  | some (.dK _) => none
  | some (.ins _ _ _) => none
  | o => o
theorem noL_of {G : Hp} {a : Addr} {o : HO} (e : noL G a = some o) : G a = some o ∧ (∀ vs, o ≠ .lst vs) ∧ (∀ xs, o ≠ .dK xs) ∧ ∀ C dx fs, o ≠ .ins C dx fs := by
  unfold noL at e
  split at e
  · cases e
  · cases e
  · cases e
  · rename_i h1 h2 h3
    refine ⟨e, fun vs z => h1 vs (by rw [e, z]), fun vs z => h2 vs (by rw [e, z]), fun a b c z => h3 a b c (by rw [e, z])⟩
theorem noL_mk {G : Hp} {a : Addr} {o : HO} (e : G a = some o) (h1 : ∀ vs, o ≠ .lst vs) (h2 : ∀ xs, o ≠ .dK xs) (h3 : ∀ C dx fs, o ≠ .ins C dx fs) : noL G a = some o := by
  unfold noL
  rw [e]
  split
  · rename_i z; cases z; exact absurd rfl (h1 _)
  · rename_i z; cases z; exact absurd rfl (h2 _)
  · rename_i z; cases z; exact absurd rfl (h3 _ _ _)
  · rfl
theorem noL_mono {G G' : Hp} (s : Same G G') : Same (noL G) (noL G') := fun a o e => by
  obtain ⟨h, h1, h2, h3⟩ := noL_of e
  exact noL_mk (s a o h) h1 h2 h3
def SameB (B H : Hp) : Prop := Same B H ∧ ∀ a o, B a = some o → NT o
def OwnAt {S : Type} (K : PySem.W.Frag) (R : StI S) (G H : Hp) (v : V) (m : MO S) (fp : Addr → Prop) : Prop :=
  match m with
  | .d x => Den K G v x ∧ ∀ a, ¬ fp a
  | .lst xs => ∃ p vs, v = .ref p ∧ H p = some (.lst vs) ∧ vs.length ≤ sizeLine ∧ DenAll K G vs xs ∧ ∀ a, fp a ↔ a = p
  | .st s => R.rel G H v s fp
  | .scr ns => (∃ a, v = .ref a ∧ SqL K G a (ns.map V.int)) ∧ ∀ a, ¬ fp a
  | .dic kvs => ∃ p xs, v = .ref p ∧ H p = some (.dK xs) ∧ xs.length ≤ sizeLine ∧ KVsD K G xs kvs ∧ ∀ a, fp a ↔ a = p
  | .lk kvs => (∃ a o xs, v = .ref a ∧ G a = some (.frz o (.dK xs)) ∧ xs.length ≤ sizeLine ∧ KVsD K G xs kvs) ∧ ∀ a, ¬ fp a
  | .dp x => ∃ B : Hp, (∀ a, fp a ↔ B a ≠ none) ∧ SameB B H ∧ Den K (ovr B (noL G)) v x
  | .obj x fs => ∃ p C dx vs f1, v = .ref p ∧ PySem.W.nsIn K mainGlobals x = some (some (.ref C)) ∧ H p = some (.ins C dx vs) ∧ FsAt K G H vs fs f1 ∧ ¬ f1 p ∧ ∀ a, fp a ↔ a = p ∨ f1 a
abbrev Un {S : Type} (F : Nat → Addr → Prop) : Addr → Prop := fun a => ∃ i, F i a
structure Step [TabL] (G H : Hp) (P : Addr → Prop) (G' H' : Hp) (P' : Addr → Prop) : Prop where
  frame : ∀ a, ¬ P a → ∀ o, H a = some o → Kp o (H' a)
  keep : Same G G'
  sub : Sub G' H'
  new0 : ∀ b, G' b ≠ none → G b ≠ none ∨ H b = none ∨ P b
  newf : ∀ b, P' b → P b ∨ H b = none
structure RS [TabL] {S : Type} (K : PySem.W.Frag) (R : StI S) (ds : DS S) (σ : L2.St) (G H : Hp) (F : Nat → Addr → Prop) : Prop where
  sub : Sub G H
  len : ds.length = σ.length
  own : ∀ (i : Nat) (m : MO S), ds[i]? = some (some m) → ∃ v, σ[i]? = some (some v) ∧ OwnAt K R G H v m (F i)
  emp : ∀ (i : Nat), (∀ m : MO S, ds[i]? ≠ some (some m)) → ∀ a, ¬ F i a
  dj : ∀ (i j : Nat) (a : Addr), F i a → F j a → i = j
  dis : ∀ (i : Nat) (a : Addr), F i a → G a = none
section
variable {S : Type} {K : PySem.W.Frag} {R : StI S} {G H G' H' G1 H1 G2 H2 : Hp} {v : V} {m : MO S} {fp P P' P1 P2 : Addr → Prop} {ds : DS S} {σ : L2.St} {F : Nat → Addr → Prop}
theorem OwnAt.trk (h : OwnAt K R G H v m fp) : ∀ a, fp a → H a ≠ none := fun a ha => by
  cases m with
  | d x => exact absurd ha (h.2 a)
  | lst xs =>
    obtain ⟨p, vs, _, e, _, _, q⟩ := h
    rw [(q a).mp ha, e]
    simp
  | st s => exact R.trk h a ha
  | scr ns => exact absurd ha (h.2 a)
  | dic kvs =>
    obtain ⟨p, xs, _, e, _, _, q⟩ := h
    rw [(q a).mp ha, e]
    simp
  | lk kvs => exact absurd ha (h.2 a)
  | dp x =>
    obtain ⟨B, e, q, d⟩ := h
    intro z
    cases eb : B a with
    | none => exact (e a).mp ha eb
    | some o => rw [q.1 a o eb] at z; cases z
  | obj x fs =>
    obtain ⟨p, C, dx, vs, f1, _, _, e, q, _, n⟩ := h
    rcases (n a).mp ha with z | z
    · rw [z, e]; simp
    · exact q.trk a z
theorem OwnAt.ntb (h : OwnAt K R G H v m fp) : ∀ a, fp a → ∀ o, H a = some o → NT o := fun a ha o e2 => by
  cases m with
  | d x => exact absurd ha (h.2 a)
  | lst xs =>
    obtain ⟨p, vs, _, e, _, _, q⟩ := h
    rw [(q a).mp ha, e] at e2
    cases e2
    exact nt_lst
  | st s => exact R.ntb h a ha o e2
  | scr ns => exact absurd ha (h.2 a)
  | dic kvs =>
    obtain ⟨p, xs, _, e, _, _, q⟩ := h
    rw [(q a).mp ha, e] at e2
    cases e2
    exact nt_dK
  | lk kvs => exact absurd ha (h.2 a)
  | dp x =>
    obtain ⟨B, e, q, d⟩ := h
    cases eb : B a with
    | none => exact absurd eb ((e a).mp ha)
    | some u =>
      rw [q.1 a u eb] at e2
      cases e2
      exact q.2 a _ eb
  | obj x fs =>
    obtain ⟨p, C, dx, vs, f1, _, _, e, q, _, n⟩ := h
    rcases (n a).mp ha with z | z
    · rw [z, e] at e2
      cases e2
      exact nt_ins
    · exact q.ntb a z o e2
theorem OwnAt.mono (h : OwnAt K R G H v m fp) (s : Same G G') (k : ∀ a, fp a → H' a = H a) : OwnAt K R G' H' v m fp := by
  cases m with
  | d x => exact ⟨h.1.mono s, h.2⟩
  | lst xs =>
    obtain ⟨p, vs, e0, e, z, d, q⟩ := h
    exact ⟨p, vs, e0, by rw [k p ((q p).mpr rfl)]; exact e, z, d.mono s, q⟩
  | st t => exact R.frame h (SameX.of s) k
  | scr ns =>
    obtain ⟨⟨a, e, q⟩, n⟩ := h
    exact ⟨⟨a, e, sql_mono s q⟩, n⟩
  | dic kvs =>
    obtain ⟨p, xs, e0, e, z, d, q⟩ := h
    exact ⟨p, xs, e0, by rw [k p ((q p).mpr rfl)]; exact e, z, d.mono s, q⟩
  | lk kvs =>
    obtain ⟨⟨a, o, xs, e0, e, z, d⟩, n⟩ := h
    exact ⟨⟨a, o, xs, e0, s _ _ e, z, d.mono s⟩, n⟩
  | dp x =>
    obtain ⟨B, e, q, d⟩ := h
    exact ⟨B, e, ⟨fun a o eb => by rw [k a ((e a).mpr (by rw [eb]; exact nofun))]; exact q.1 a o eb, q.2⟩, d.mono (ovr_mono (noL_mono s))⟩
  | obj x fs =>
    obtain ⟨p, C, dx, vs, f1, e0, c, e, q, np, n⟩ := h
    exact ⟨p, C, dx, vs, f1, e0, c, by rw [k p ((n p).mpr (.inl rfl))]; exact e, q.mono s fun a ha => k a ((n a).mpr (.inr ha)), np, n⟩
theorem OwnAt.iff {fq : Addr → Prop} (h : OwnAt K R G H v m fp) (e : ∀ a, fq a ↔ fp a) : OwnAt K R G H v m fq := by
  have : fq = fp := funext fun a => propext (e a)
  rw [this]
  exact h
theorem Step.refl (s : Sub G H) : Step G H P G H P := ⟨fun _ _ _ h => .inl h, Same.refl _, s, fun _ h => .inl h, fun _ h => .inl h⟩
theorem Step.trans (a : Step G H P G1 H1 P1) (b : Step G1 H1 P1 G2 H2 P2) : Step G H P G2 H2 P2 := by
  have nP1 : ∀ c, ¬ P c → ∀ o, H c = some o → ¬ P1 c := fun c hc o e q => (a.newf c q).elim hc fun z => by rw [e] at z; cases z
  have back : ∀ c, H1 c = none → H c = none ∨ P c := fun c z => by
    by_cases hc : P c
    · exact .inr hc
    · cases q : H c with
      | none => exact .inl rfl
      | some o => exact absurd z (a.frame c hc o q).ne
  refine ⟨fun c hc o e => (a.frame c hc o e).trans fun u e1 => b.frame c (nP1 c hc o e) u e1, a.keep.trans b.keep, b.sub, fun c h => ?_, fun c h => ?_⟩
  · rcases b.new0 c h with h1 | h1 | h1
    · exact a.new0 c h1
    · rcases back c h1 with z | z
      · exact .inr (.inl z)
      · exact .inr (.inr z)
    · rcases a.newf c h1 with z | z
      · exact .inr (.inr z)
      · exact .inr (.inl z)
  · rcases b.newf c h with h1 | h1
    · exact a.newf c h1
    · rcases back c h1 with z | z
      · exact .inr z
      · exact .inl z
theorem Step.weaken (a : Step G H P G1 H1 P1) (h : ∀ b, P2 b → P1 b) : Step G H P G1 H1 P2 := ⟨a.frame, a.keep, a.sub, a.new0, fun b q => a.newf b (h b q)⟩
theorem Gr.step (g : Gr G H G' H') : Step G H P G' H' P := ⟨fun a _ o e => g.all a o e, g.keep, g.sub, fun b h => (g.new b h).elim .inl fun z => .inr (.inl z), fun _ h => .inl h⟩
theorem RS.trk (r : RS K R ds σ G H F) : ∀ i a, F i a → H a ≠ none := fun i a ha => by
  by_cases h : ∃ m : MO S, ds[i]? = some (some m)
  · obtain ⟨m, e⟩ := h
    obtain ⟨v, _, o⟩ := r.own i m e
    exact o.trk a ha
  · exact absurd ha (r.emp i (fun m e => h ⟨m, e⟩) a)
theorem RS.ntb (r : RS K R ds σ G H F) : ∀ i a, F i a → ∀ o, H a = some o → NT o := fun i a ha o e2 => by
  by_cases h : ∃ m : MO S, ds[i]? = some (some m)
  · obtain ⟨m, e⟩ := h
    obtain ⟨v, _, q⟩ := r.own i m e
    exact q.ntb a ha o e2
  · exact absurd ha (r.emp i (fun m e => h ⟨m, e⟩) a)
theorem RS.grow (r : RS K R ds σ G H F) (g : Gr G H G' H') : RS K R ds σ G' H' F where
  sub := g.sub
  len := r.len
  own := fun i m e => by
    obtain ⟨v, h1, h2⟩ := r.own i m e
    refine ⟨v, h1, h2.mono g.keep fun a ha => ?_⟩
    cases q : H a with
    | none => exact absurd q (r.trk i a ha)
    | some o => exact (g.all a o q).nt (r.ntb i a ha o q)
  emp := r.emp
  dj := r.dj
  dis := fun i a ha => by
    cases q : G' a with
    | none => rfl
    | some o =>
      rcases g.new a (by rw [q]; simp) with z | z
      · exact absurd (r.dis i a ha) z
      · exact absurd z (r.trk i a ha)
def hideM : Option (MO S) → Option (MO S)
  | some (.lst _) => none
  | some (.dic _) => none
  | some (.obj _ _) => none
  | some (.dp _) => none
  | o => o
def hideDS (ds : DS S) : DS S := ds.map hideM
theorem RS.view (r : RS K R ds σ G H F) : View K G σ (hideDS ds) := by
  refine ⟨by unfold hideDS; rw [List.length_map]; exact r.len, fun i m e => ?_⟩
  unfold hideDS at e
  rw [List.getElem?_map] at e
  cases q : ds[i]? with
  | none => rw [q] at e; cases e
  | some o =>
    rw [q] at e
    cases o with
    | none => cases e
    | some m' =>
      cases m' with
      | lst xs => cases e
      | dic kvs => cases e
      | lk kvs =>
        cases e
        obtain ⟨v, h1, h2⟩ := r.own i _ q
        obtain ⟨⟨a, o, xs, e0, e, z, d⟩, _⟩ := h2
        exact ⟨v, h1, a, o, xs, e0, e, z, d⟩
      | obj x fs => cases e
      | dp x => cases e
      | d x =>
        cases e
        obtain ⟨v, h1, h2⟩ := r.own i _ q
        exact ⟨v, h1, h2.1⟩
      | st s =>
        cases e
        obtain ⟨v, h1, h2⟩ := r.own i _ q
        exact ⟨v, h1, trivial⟩
      | scr ns =>
        cases e
        obtain ⟨v, h1, h2⟩ := r.own i _ q
        exact ⟨v, h1, h2.1⟩
def setF (F : Nat → Addr → Prop) (i : Nat) (fr : Addr → Prop) : Nat → Addr → Prop := fun j a => if j = i then fr a else F j a
theorem RS.set (r : RS K R ds σ G H F) (i : Nat) (hi : i < ds.length) {fr : Addr → Prop} (o : OwnAt K R G H v m fr) (h1 : ∀ a, fr a → ¬ ∃ j, F j a) (h2 : ∀ a, fr a → G a = none) : RS K R (ds.set i (some m)) (σ.set i (some v)) G H (setF F i fr) where
  sub := r.sub
  len := by rw [List.length_set, List.length_set]; exact r.len
  own := fun j m' e => by
    by_cases hj : i = j
    · subst hj
      rw [List.getElem?_set_self hi] at e
      cases e
      refine ⟨v, by rw [List.getElem?_set_self (by rw [← r.len]; exact hi)], o.iff fun a => ?_⟩
      unfold setF
      rw [if_pos rfl]
    · rw [List.getElem?_set_ne hj] at e ⊢
      obtain ⟨u, h3, h4⟩ := r.own j m' e
      refine ⟨u, h3, h4.iff fun a => ?_⟩
      unfold setF
      rw [if_neg (Ne.symm hj)]
  emp := fun j e a ha => by
    unfold setF at ha
    by_cases hj : j = i
    · subst hj
      exact e m (List.getElem?_set_self hi)
    · rw [if_neg hj] at ha
      refine r.emp j (fun m' q => e m' ?_) a ha
      rw [List.getElem?_set_ne (Ne.symm hj)]
      exact q
  dj := fun j k a ha hb => by
    unfold setF at ha hb
    by_cases hj : j = i
    · rw [if_pos hj] at ha
      by_cases hk : k = i
      · rw [hj, hk]
      · rw [if_neg hk] at hb
        exact absurd ⟨k, hb⟩ (h1 a ha)
    · rw [if_neg hj] at ha
      by_cases hk : k = i
      · rw [if_pos hk] at hb
        exact absurd ⟨j, ha⟩ (h1 a hb)
      · rw [if_neg hk] at hb
        exact r.dj j k a ha hb
  dis := fun j a ha => by
    unfold setF at ha
    by_cases hj : j = i
    · rw [if_pos hj] at ha; exact h2 a ha
    · rw [if_neg hj] at ha; exact r.dis j a ha
theorem setF_un {i : Nat} {fr : Addr → Prop} : ∀ a, (∃ j, setF F i fr j a) → (∃ j, F j a) ∨ fr a := fun a ⟨j, h⟩ => by
  unfold setF at h
  by_cases hj : j = i
  · rw [if_pos hj] at h; exact .inr h
  · rw [if_neg hj] at h; exact .inl ⟨j, h⟩
end
section
variable {S : Type}
def tX [TabL] (K : PySem.W.Frag) (R : StI S) (f : DS S → Option (D × DS S)) : TE := fun σ H Q => ∃ G F ds d ds', RS K R ds σ G H F ∧ f ds = some (d, ds') ∧
  ∀ v G' H' F', RS K R ds' σ G' H' F' → Step G H (fun a => ∃ i, F i a) G' H' (fun a => ∃ i, F' i a) → Den K G' v d → Q v H'
def tO [TabL] (K : PySem.W.Frag) (R : StI S) (f : DS S → Option (MO S × DS S)) : TE := fun σ H Q => ∃ G F ds m ds', RS K R ds σ G H F ∧ f ds = some (m, ds') ∧
  ∀ v G' H' F' fr, RS K R ds' σ G' H' F' → Step G H (fun a => ∃ i, F i a) G' H' (fun a => (∃ i, F' i a) ∨ fr a) → OwnAt K R G' H' v m fr → (∀ a, fr a → ¬ ∃ i, F' i a) → (∀ a, fr a → G' a = none) → Q v H'
def tXT [TabL] (K : PySem.W.Frag) (R : StI S) (f : DS S → Option (Bool × DS S)) : TT := fun σ H Q => ∃ G F ds b ds', RS K R ds σ G H F ∧ f ds = some (b, ds') ∧
  ∀ G' H' F', RS K R ds' σ G' H' F' → Step G H (fun a => ∃ i, F i a) G' H' (fun a => ∃ i, F' i a) → Q b H'
def tXA [TabL] (K : PySem.W.Frag) (R : StI S) (f : DS S → Option (List D × DS S)) : TA := fun σ H Q => ∃ G F ds xs ds', RS K R ds σ G H F ∧ f ds = some (xs, ds') ∧
  ∀ vs G' H' F', RS K R ds' σ G' H' F' → Step G H (fun a => ∃ i, F i a) G' H' (fun a => ∃ i, F' i a) → DenAll K G' vs xs → Q vs H'
def tXI [TabL] (W : Bool) (K : PySem.W.Frag) (R : StI S) (f : DS S → Option (List D × DS S)) : TI := fun σ H Q => ∃ G F ds xs ds', RS K R ds σ G H F ∧ f ds = some (xs, ds') ∧
  ∀ J G' H' F', RS K R ds' σ G' H' F' → Step G H (fun a => ∃ i, F i a) G' H' (fun a => ∃ i, F' i a) → ItD W K J xs G' → Q J H'
end
mutual
def noList : D → Bool
  | .none => true | .bool _ => true | .int _ => true | .str _ => true
  | .list _ => false
  | .tuple xs => noListAll xs
  | .dict _ => false
def noListAll : List D → Bool
  | [] => true
  | x :: xs => noList x && noListAll xs
end
section
variable {K : PySem.W.Frag} {A B : Hp}
theorem frz_nl {o : Obj} {u : HO} (vs : List V) : HO.frz o u ≠ .lst vs := fun z => nomatch z
theorem frz_ni {o : Obj} {u : HO} (C dx : Addr) (fs : List (Str × V)) : HO.frz o u ≠ .ins C dx fs := fun z => nomatch z
theorem frz_nd {o : Obj} {u : HO} (xs : List (Key × V)) : HO.frz o u ≠ .dK xs := fun z => nomatch z
mutual
theorem Den.move (h : ∀ a o, A a = some o → (∀ vs, o ≠ .lst vs) → (∀ xs, o ≠ .dK xs) → (∀ C dx fs, o ≠ .ins C dx fs) → B a = some o) : ∀ {v : V} {d : D}, Den K A v d → noList d = true → Den K B v d
  | _, _, .non, _ => .non
  | _, _, .bl b, _ => .bl b
  | _, _, .int i, _ => .int i
  | _, _, .str x z o, _ => .str x z o
  | _, _, .lst _ _ _, e => by cases e
  | _, _, .tup q z r, e => .tup (q.keep fun o q2 => h _ _ q2 frz_nl frz_nd frz_ni) z (DenAll.move h r e)
  | _, _, .emp _, e => by cases e
  | _, _, .dct _ _ _, e => by cases e
  | _, _, .obj _ _ _, e => by cases e
theorem DenAll.move (h : ∀ a o, A a = some o → (∀ vs, o ≠ .lst vs) → (∀ xs, o ≠ .dK xs) → (∀ C dx fs, o ≠ .ins C dx fs) → B a = some o) : ∀ {vs : List V} {ds : List D}, DenAll K A vs ds → noListAll ds = true → DenAll K B vs ds
  | _, _, .nil, _ => .nil
  | _, _, .cons d r, e => by
    unfold noListAll at e
    obtain ⟨e1, e2⟩ := Bool.and_eq_true_iff.mp e
    exact .cons (Den.move h d e1) (DenAll.move h r e2)
end
end
section
variable {S : Type} {K : PySem.W.Frag} {R : StI S} {G H : Hp} {ds : DS S} {σ : L2.St} {F : Nat → Addr → Prop}
open Classical in
noncomputable def shown (ds : DS S) (G H : Hp) (F : Nat → Addr → Prop) : Hp := fun b => match G b with
  | some o => some o
  | none => if (∃ i xs, ds[i]? = some (some (.lst xs)) ∧ F i b) ∨ (∃ i kvs, ds[i]? = some (some (.dic kvs)) ∧ F i b) ∨ (∃ i x fs, ds[i]? = some (some (.obj x fs)) ∧ F i b) then H b else none
open Classical in
noncomputable def unshown (G H B : Hp) : Hp := fun b => match G b with
  | some o => some o
  | none => if H b = none then B b else none
theorem shown_G {b : Addr} {o : HO} (e : G b = some o) : shown ds G H F b = some o := by unfold shown; rw [e]
theorem shown_same (s : Sub G H) : Same (shown ds G H F) H := fun b o e => by
  unfold shown at e
  cases q : G b with
  | some u => rw [q] at e; cases e; exact s b _ q
  | none =>
    rw [q] at e
    dsimp only at e
    split at e
    · exact e
    · cases e
theorem shown_sub (r : RS K R ds σ G H F) : Sub (shown ds G H F) H := ⟨shown_same r.sub, r.sub.tab, fun b o e => by
  unfold shown at e
  cases q : G b with
  | some u => rw [q] at e; cases e; exact r.sub.ng b _ q
  | none =>
    rw [q] at e
    dsimp only at e
    split at e
    · rename_i z
      rcases z with ⟨i, _, _, h⟩ | ⟨i, _, _, h⟩ | ⟨i, _, _, _, h⟩ <;> exact (r.ntb i b h _ e).1
    · cases e⟩
theorem RS.show (r : RS K R ds σ G H F) : View K (shown ds G H F) σ ds := by
  refine ⟨r.len, fun i m e => ?_⟩
  obtain ⟨v, h1, h2⟩ := r.own i m e
  have sg : Same G (shown ds G H F) := fun b o q => shown_G q
  cases m with
  | d x => exact ⟨v, h1, h2.1.mono sg⟩
  | lst xs =>
    obtain ⟨p, vs, rfl, q, z, dd, n⟩ := h2
    refine ⟨_, h1, .lst ?_ z (dd.mono sg)⟩
    unfold shown
    rw [r.dis i p ((n p).mpr rfl)]
    dsimp only
    rw [if_pos (.inl ⟨i, xs, e, (n p).mpr rfl⟩)]
    exact q
  | st s => exact ⟨v, h1, trivial⟩
  | dic kvs =>
    obtain ⟨p, xs, rfl, q, z, dd, n⟩ := h2
    refine ⟨_, h1, p, xs, rfl, ?_, dd.mono sg⟩
    unfold shown
    rw [r.dis i p ((n p).mpr rfl)]
    dsimp only
    rw [if_pos (.inr (.inl ⟨i, kvs, e, (n p).mpr rfl⟩))]
    exact q
  | lk kvs =>
    obtain ⟨⟨a, o, xs, e0, e, z, d⟩, _⟩ := h2
    exact ⟨v, h1, a, o, xs, e0, sg _ _ e, z, d.mono sg⟩
  | dp x => exact ⟨v, h1, trivial⟩
  | obj x fs =>
    obtain ⟨p, C, dx, vs, f1, rfl, c, q, fa, np, n⟩ := h2
    have sh : ∀ a, a = p ∨ f1 a → shown ds G H F a = H a := fun a ha => by
      have ha' := (n a).mpr ha
      unfold shown
      rw [r.dis i a ha']
      dsimp only
      rw [if_pos (.inr (.inr ⟨i, x, fs, e, ha'⟩))]
    exact ⟨_, h1, .obj (by rw [sh p (.inl rfl)]; exact q) c (fa.den sg fun a ha => sh a (.inr ha))⟩
  | scr ns =>
    obtain ⟨⟨a, e', q⟩, _⟩ := h2
    exact ⟨v, h1, a, e', sql_mono sg q⟩
theorem unshown_gr {B H' : Hp} (r : RS K R ds σ G H F) (g : Gr (shown ds G H F) H B H') : Gr G H (unshown G H B) H' := by
  refine ⟨fun b o e => by unfold unshown; rw [e], subT (G := B) (fun b o e => ?_) g.sub, g.all, fun b h => ?_⟩
  · unfold unshown at e
    cases q : G b with
    | some u => rw [q] at e; cases e; exact g.keep _ _ (shown_G q)
    | none =>
      rw [q] at e
      dsimp only at e
      split at e
      · exact e
      · cases e
  · unfold unshown at h
    cases q : G b with
    | some u => exact .inl (by simp)
    | none =>
      rw [q] at h
      dsimp only at h
      split at h
      · rename_i z; exact .inr z
      · exact absurd rfl h
theorem unshown_move {B H' : Hp} (r : RS K R ds σ G H F) (g : Gr (shown ds G H F) H B H') : ∀ a o, B a = some o → (∀ vs, o ≠ .lst vs) → (∀ xs, o ≠ .dK xs) → (∀ C dx fs, o ≠ .ins C dx fs) → unshown G H B a = some o := fun a o e n n2 n3 => by
  unfold unshown
  cases q : G a with
  | some u =>
    have := g.keep a u (shown_G q)
    rw [e] at this
    cases this
    rfl
  | none =>
    dsimp only
    rcases g.new a (by rw [e]; simp) with z | z
    · exfalso
      cases q2 : shown ds G H F a with
      | none => exact z q2
      | some u =>
        have hk := g.keep a u q2
        rw [e] at hk
        cases hk
        unfold shown at q2
        rw [q] at q2
        dsimp only at q2
        split at q2
        · rename_i hx
          rcases hx with ⟨i, xs, e1, e2⟩ | ⟨i, kvs, e1, e2⟩ | ⟨i, x, fs, e1, e2⟩
          · obtain ⟨v, _, p, vs, _, hp, _, _, fe⟩ := r.own i _ e1
            rw [(fe a).mp e2, hp] at q2
            cases q2
            exact n vs rfl
          · obtain ⟨v, _, p, vs, _, hp, _, _, fe⟩ := r.own i _ e1
            rw [(fe a).mp e2, hp] at q2
            cases q2
            exact n2 vs rfl
          · obtain ⟨v, _, p, C, dx, vs, f1, _, _, hp, fa, _, fe⟩ := r.own i _ e1
            rcases (fe a).mp e2 with z | z
            · rw [z, hp] at q2
              cases q2
              exact n3 _ _ _ rfl
            · rcases fa.kind a z with ⟨ws, hw⟩ | ⟨ws, hw⟩
              · rw [hw] at q2; cases q2; exact n ws rfl
              · rw [hw] at q2; cases q2; exact n2 ws rfl
        · cases q2
    · rw [if_pos z]; exact e
end
section
variable {S : Type} {X : Cx} {R : StI S} {a b c e : Expr} {es rest : List Expr} {pos : Pos}
def xP (g : DS S → Option D) : DS S → Option (D × DS S) := fun ds => (g (hideDS ds)).map fun d => (d, ds)
def xB (g : DS S → Option D) : DS S → Option (D × DS S) := fun ds => (g ds).bind fun d => if noList d = true then some (d, ds) else none
def oP (g : DS S → Option (List D)) : DS S → Option (MO S × DS S) := fun ds => (g (hideDS ds)).map fun xs => (.lst xs, ds)
def oB (g : DS S → Option (List D)) : DS S → Option (MO S × DS S) := fun ds => (g ds).bind fun xs => if noListAll xs = true then some (.lst xs, ds) else none
theorem x_pure {g : DS S → Option D} {σ : L2.St} {H : Hp} {Q : VK} (h : tX X.K R (xP g) σ H Q) : tP X.K g σ H Q := by
  obtain ⟨G, F, ds, d, ds', r, e, k⟩ := h
  unfold xP at e
  cases eg : g (hideDS ds) with
  | none => rw [eg] at e; cases e
  | some d0 =>
    rw [eg] at e
    cases e
    exact ⟨G, hideDS ds, d, r.sub, r.view, eg, fun v G' H' gr dn => k v G' H' F (r.grow gr) gr.step dn⟩
theorem ex_P {g : DS S → Option D} (h : PE X e (tP X.K g)) : PE X e (tX X.K R (xP g)) := PE.imp h fun _ _ _ => x_pure
theorem x_B {K : PySem.W.Frag} {g : DS S → Option D} {σ : L2.St} {H : Hp} {Q : VK} (h : tX K R (xB g) σ H Q) : tP K g σ H Q := by
  obtain ⟨G, F, ds, d, ds', r, e, k⟩ := h
  unfold xB at e
  cases eg : g ds with
  | none => rw [eg] at e; cases e
  | some d0 =>
    rw [eg] at e
    simp only [Option.bind_some] at e
    split at e
    · cases e
      rename_i hf
      exact ⟨shown ds G H F, ds, d, shown_sub r, r.show, eg, fun v B H' gr dn => k v (unshown G H B) H' F (r.grow (unshown_gr r gr)) (unshown_gr r gr).step (dn.move (unshown_move r gr) hf)⟩
    · cases e
theorem ex_B {g : DS S → Option D} (h : PE X e (tP X.K g)) : PE X e (tX X.K R (xB g)) := PE.imp h fun _ _ _ => x_B
theorem o_P {K : PySem.W.Frag} {g : DS S → Option (List D)} {σ : L2.St} {H : Hp} {Q : VK} (h : tO K R (oP g) σ H Q) : tF K g σ H Q := by
  obtain ⟨G, F, ds, d, ds', r, e, k⟩ := h
  unfold oP at e
  cases eg : g (hideDS ds) with
  | none => rw [eg] at e; cases e
  | some d0 =>
    rw [eg] at e
    cases e
    refine ⟨G, hideDS ds, _, r.sub, r.view, eg, fun p vs G' H' gr h1 h2 h3 z dn => k _ G' H' F (· = p) (r.grow gr) ⟨gr.step (P := fun a => ∃ i, F i a).frame, gr.keep, gr.sub, gr.step.new0, fun b hb => ?_⟩ ⟨p, vs, rfl, h3, z, dn, fun a => Iff.rfl⟩ (fun a ha ⟨i, hi⟩ => ?_) fun a ha => by rw [ha]; exact h1⟩
    · rcases hb with hb | hb
      · exact .inl hb
      · exact .inr (by rw [hb]; exact h2)
    · rw [ha] at hi
      exact r.trk i p hi h2
theorem eo_P {g : DS S → Option (List D)} (h : PE X e (tF X.K g)) : PE X e (tO X.K R (oP g)) := PE.imp h fun _ _ _ => o_P
def oX (f : DS S → Option (D × DS S)) : DS S → Option (MO S × DS S) := fun ds => (f ds).map fun p => (.d p.1, p.2)
theorem o_X {K : PySem.W.Frag} {f : DS S → Option (D × DS S)} {σ : L2.St} {H : Hp} {Q : VK} (h : tO K R (oX f) σ H Q) : tX K R f σ H Q := by
  obtain ⟨G, F, ds, m, ds', r, e, k⟩ := h
  unfold oX at e
  cases ef : f ds with
  | none => rw [ef] at e; cases e
  | some p =>
    rw [ef] at e
    cases e
    exact ⟨G, F, ds, p.1, p.2, r, ef, fun v G' H' F' r' s d => k v G' H' F' (fun _ => False) r' ⟨s.frame, s.keep, s.sub, s.new0, fun b hb => hb.elim (s.newf b) False.elim⟩ ⟨d, fun _ h => h⟩ (fun _ h => h.elim) fun _ h => h.elim⟩
theorem eo_X {f : DS S → Option (D × DS S)} (h : PE X e (tX X.K R f)) : PE X e (tO X.K R (oX f)) := PE.imp h fun _ _ _ => o_X
def xO (f : DS S → Option (MO S × DS S)) : DS S → Option (D × DS S) := fun ds => match f ds with
  | some (.d x, ds') => some (x, ds')
  | some (.lst xs, ds') => some (.list xs, ds')
  | _ => none
theorem x_O {K : PySem.W.Frag} {f : DS S → Option (MO S × DS S)} {σ : L2.St} {H : Hp} {Q : VK} (h : tX K R (xO f) σ H Q) : tO K R f σ H Q := by
  obtain ⟨G, F, ds, d, ds', r, e, k⟩ := h
  unfold xO at e
  split at e
  · cases e
    rename_i ef
    exact ⟨G, F, ds, _, _, r, ef, fun v G' H' F' fr r' s o h1 h2 => k v G' H' F' r' (s.weaken fun b hb => .inl hb) o.1⟩
  · cases e
    rename_i xs ef
    refine ⟨G, F, ds, _, _, r, ef, fun v G' H' F' fr r' s o h1 h2 => ?_⟩
    obtain ⟨p, vs, rfl, e1, z, dd, q⟩ := o
    have hp := h2 p ((q p).mpr rfl)
    have ng : ∀ b o, G' b = some o → upd G' p (.lst vs) b = some o := fun b o e => by rw [upd_ne (ne_of_none e hp)]; exact e
    have sub : Sub (upd G' p (.lst vs)) H' := s.sub.frz e1
    refine k _ (upd G' p (.lst vs)) H' F' ⟨sub, r'.len, fun i m e => ?_, r'.emp, r'.dj, fun i a ha => ?_⟩ ⟨s.frame, fun b o e => ng b o (s.keep b o e), sub, fun b h => ?_, fun b h => s.newf b (.inl h)⟩ (.lst upd_same z (dd.mono ng))
    · obtain ⟨v, h3, h4⟩ := r'.own i m e
      exact ⟨v, h3, h4.mono ng fun _ _ => rfl⟩
    · by_cases hb : a = p
      · exact absurd ⟨i, ha⟩ (h1 a ((q a).mpr hb))
      · rw [upd_ne hb]; exact r'.dis i a ha
    · by_cases hb : b = p
      · rcases s.newf b (.inr ((q b).mpr hb)) with z | z
        · exact .inr (.inr z)
        · exact .inr (.inl z)
      · rw [upd_ne hb] at h; exact s.new0 b h
  · cases e
theorem ex_O {f : DS S → Option (MO S × DS S)} (h : PE X e (tO X.K R f)) : PE X e (tX X.K R (xO f)) := PE.imp h fun _ _ _ => x_O
abbrev XF (S α : Type) := DS S → Option (α × DS S)
def xb {α β : Type} (f : XF S α) (k : α → XF S β) : XF S β := fun ds => (f ds).bind fun p => k p.1 p.2
def xlift {α : Type} (o : Option α) : XF S α := fun ds => o.map fun x => (x, ds)
theorem xb_some {α β : Type} {f : XF S α} {k : α → XF S β} {ds : DS S} {y : β} {ds' : DS S} (h : xb f k ds = some (y, ds')) : ∃ x ds1, f ds = some (x, ds1) ∧ k x ds1 = some (y, ds') := by
  unfold xb at h
  cases e : f ds with
  | none => rw [e] at h; cases h
  | some p => rw [e] at h; exact ⟨p.1, p.2, rfl, h⟩
theorem xlift_some {α : Type} {o : Option α} {ds : DS S} {x : α} {ds' : DS S} (h : xlift o ds = some (x, ds')) : o = some x ∧ ds' = ds := by
  unfold xlift at h
  cases o with
  | none => cases h
  | some y => cases h; exact ⟨rfl, rfl⟩
variable {fa fb fc : XF S D}
def xOp (g : D → D → Option D) (fa fb : XF S D) : XF S D := xb fa fun x => xb fb fun y => xlift (g x y)
theorem x_op {r : R2} {g : D → D → Option D} (hr : R2D X.K r g) {σ : L2.St} {H : Hp} {Q : VK} (h : tX X.K R (xOp g fa fb) σ H Q) : tOp r (tX X.K R fa) (tX X.K R fb) σ H Q := by
  obtain ⟨G, F, ds, d, ds', rs, e, k⟩ := h
  obtain ⟨x, ds1, ea, e⟩ := xb_some e
  obtain ⟨y, ds2, eb, e⟩ := xb_some e
  obtain ⟨eg, e9⟩ := xlift_some e
  subst e9
  refine ⟨G, F, ds, x, ds1, rs, ea, fun v G1 H1 F1 r1 s1 d1 => ?_⟩
  refine ⟨G1, F1, ds1, y, _, r1, eb, fun u G2 H2 F2 r2 s2 d2 => ?_⟩
  exact hr v u x y d G2 H2 Q r2.sub (d1.mono s2.keep) d2 eg fun z G3 H3 g3 d3 => k z G3 H3 F2 (r2.grow g3) ((s1.trans s2).trans g3.step) d3
theorem ex_bin {op : Operator} {r : R2} {g : D → D → Option D} (ho : OpR X (binaryOp op) r) (hr : R2D X.K r g) (ha : PE X a (tX X.K R fa)) (hb : PE X b (tX X.K R fb)) : PE X (.BinOp a op b pos) (tX X.K R (xOp g fa fb)) := PE.imp (pe_op ho ha hb) fun _ _ _ h => x_op hr h
theorem ex_ix {r : R2} {g : D → D → Option D} (ho : IxR X r) (hr : R2D X.K r g) (ha : PE X a (tX X.K R fa)) (hb : PE X b (tX X.K R fb)) (hs : PlainIx b) : PE X (.Subscript a b pos) (tX X.K R (xOp g fa fb)) := PE.imp (pe_ix ho ha hb hs) fun _ _ _ h => x_op hr h
def xOpF (g : D → D → Option (List D)) (fa fb : XF S D) : XF S (MO S) := xb fa fun x => xb fb fun y => xlift ((g x y).map .lst)
def xUn (g : D → Option D) (fa : XF S D) : XF S D := xb fa fun x => xlift (g x)
def xNil : XF S (List D) := fun ds => some ([], ds)
def xCons (f : XF S D) (r : XF S (List D)) : XF S (List D) := xb f fun x => xb r fun xs => xlift (some (x :: xs))
theorem ax_nil : PA X [] (tXA X.K R (xNil (S := S))) := PA.imp pa_nil fun σ H Q ⟨G, F, ds, d, ds', rs, e, k⟩ => by
  cases e
  exact k [] G H F rs (.refl rs.sub) .nil
theorem ax_cons {fr : XF S (List D)} (ha : PE X e (tX X.K R fa)) (hr : PA X es (tXA X.K R fr)) (hs : starEach (e :: es) X.env = (false, eval e X.env) :: starEach es X.env := by rfl) : PA X (e :: es) (tXA X.K R (xCons fa fr)) :=
  PA.imp (pa_cons ha hr hs) fun σ H Q ⟨G, F, ds, d, ds', rs, e, k⟩ => by
    obtain ⟨x, ds1, ea, e⟩ := xb_some e
    obtain ⟨xs, ds2, eb, e⟩ := xb_some e
    obtain ⟨eg, e9⟩ := xlift_some e
    subst e9
    cases eg
    refine ⟨G, F, ds, x, ds1, rs, ea, fun v G1 H1 F1 r1 s1 d1 => ?_⟩
    exact ⟨G1, F1, ds1, xs, _, r1, eb, fun vs G2 H2 F2 r2 s2 d2 => k (v :: vs) G2 H2 F2 r2 (s1.trans s2) (.cons (d1.mono s2.keep) d2)⟩
def xTup (f : XF S (List D)) : XF S D := xb f fun xs => xlift (if xs.length ≤ sizeLine then some (.tuple xs) else none)
theorem ex_tup {f : XF S (List D)} {x1} (h : PA X es (tXA X.K R f)) : PE X (.Tuple es x1 pos) (tX X.K R (xTup f)) := PE.imp (pe_tupF h) fun σ H Q ⟨G, F, ds, d, ds', rs, e, k⟩ => by
  obtain ⟨xs, ds1, ea, e⟩ := xb_some e
  obtain ⟨eg, e9⟩ := xlift_some e
  subst e9
  by_cases hz : xs.length ≤ sizeLine
  · rw [if_pos hz] at eg
    cases eg
    refine ⟨G, F, ds, xs, _, rs, ea, fun vs G1 H1 F1 r1 s1 d1 => ⟨by rw [d1.length]; exact hz, fun p o dn hp => ?_⟩⟩
    have hg := r1.sub.free hp
    have g3 := Gr.upd (o := .frz o (.tup vs)) r1.sub hp
    exact k (.ref p) (upd G1 p (.frz o (.tup vs))) _ F1 (r1.grow g3) (s1.trans g3.step) (.tup (PqT.new dn) (by rw [d1.length]; exact hz) (d1.mono fun b u e => by rw [upd_ne (ne_of_none e hg)]; exact e))
  · rw [if_neg hz] at eg
    cases eg
def xLst (f : XF S (List D)) : XF S (MO S) := xb f fun xs => xlift (if xs.length ≤ sizeLine then some (.lst xs) else none)
theorem eo_lst {f : XF S (List D)} (h : PA X es (tXA X.K R f)) : PE X (.List es pos) (tO X.K R (xLst f)) := PE.imp (pe_lst h) fun σ H Q ⟨G, F, ds, d, ds', rs, e, k⟩ => by
  obtain ⟨xs, ds1, ea, e⟩ := xb_some e
  obtain ⟨eg, e9⟩ := xlift_some e
  subst e9
  by_cases hz : xs.length ≤ sizeLine
  · rw [if_pos hz] at eg
    cases eg
    refine ⟨G, F, ds, xs, _, rs, ea, fun vs G1 H1 F1 r1 s1 d1 => ⟨by rw [d1.length]; exact hz, fun p hp => ?_⟩⟩
    have g3 := Gr.own (o := .lst vs) r1.sub hp
    refine k (.ref p) G1 (upd H1 p (.lst vs)) F1 (· = p) (r1.grow g3) (s1.trans ⟨g3.step (P := fun a => ∃ i, F1 i a).frame, g3.keep, g3.sub, g3.step.new0, fun b hb => ?_⟩) ⟨p, vs, rfl, upd_same, by rw [d1.length]; exact hz, d1, fun a => Iff.rfl⟩ (fun a ha ⟨i, hi⟩ => ?_) fun a ha => by rw [ha]; exact r1.sub.free hp
    · rcases hb with hb | hb
      · exact .inl hb
      · exact .inr (by rw [hb]; exact hp)
    · rw [ha] at hi
      exact r1.trk i p hi hp
  · rw [if_neg hz] at eg
    cases eg
def xCall (f : XF S (List D)) (g : List D → Option D) : XF S D := xb f fun xs => xlift (g xs)
def xCallF (f : XF S (List D)) (g : List D → Option (List D)) : XF S (MO S) := xb f fun xs => xlift ((g xs).map .lst)
theorem x_cb {r : List V → Hp → VK → Prop} {g : List D → Option D} {f : XF S (List D)} (hr : RCD X.K r g) {σ : L2.St} {H : Hp} {Q : VK} (h : tX X.K R (xCall f g) σ H Q) : tCB r (tXA X.K R f) σ H Q := by
  obtain ⟨G, F, ds, d, ds', rs, e, k⟩ := h
  obtain ⟨xs, ds1, ea, e⟩ := xb_some e
  obtain ⟨eg, e9⟩ := xlift_some e
  subst e9
  exact ⟨G, F, ds, xs, _, rs, ea, fun vs G1 H1 F1 r1 s1 d1 => hr vs xs d G1 H1 Q r1.sub d1 eg fun v G2 H2 g2 d2 => k v G2 H2 F1 (r1.grow g2) (s1.trans g2.step) d2⟩
variable {x : Str} {p : Pos} {bid T : String} {fs : XF S (List D)}
theorem ex_cb {r : List V → Hp → VK → Prop} {f : List D → Option D} (hc : CallR X (.builtin bid) r) (hr : RCD X.K r f) (hg : Gl X x) (hm : X.mg x = none) (hv : bootBuiltins x = some (.builtin bid)) (ha : PA X (e :: es) (tXA X.K R fs)) (hn : x ≠ "__name__" := by decide) (hdb : (x == ("__debug__" : Str)) = false := by decide)
    (he : starEach (e :: es) X.env = (false, eval e X.env) :: starEach es X.env := by rfl) (hpl : (backTo pos (starEach es X.env)).any (·.1) = false := by rfl) : PE X (.Call (.Name x p) (e :: es) [] pos) (tX X.K R (xCall fs f)) :=
  PE.imp (pe_callB hc hg hm hv ha hn hdb he hpl) fun _ _ _ h => x_cb hr h
end
end
section
variable {TBL : TabL}
section
variable {S : Type} {X : Cx} {R : StI S} {a b c e : Expr} {es rest : List Expr} {pos : Pos} {fa fb : XF S D} {h1 h2 : XF S Bool}
def xTr (f : XF S D) : XF S Bool := xb f fun x => xlift (truD x)
def boolD : D → Option Bool
  | .bool b => some b
  | _ => none
def xBool (f : XF S D) : XF S Bool := xb f fun x => xlift (boolD x)
def xtP (h : DS S → Option Bool) : XF S Bool := fun ds => (h ds).map fun b => (b, ds)
theorem xt_P {h : DS S → Option Bool} (ht : PT X a (tPT X.K h)) : PT X a (tXT X.K R (xtP h)) := PT.imp ht fun σ H Q ⟨G, F, ds, b, ds', r, e, k⟩ => by
  unfold xtP at e
  cases eg : h ds with
  | none => rw [eg] at e; cases e
  | some d0 =>
    rw [eg] at e
    cases e
    exact ⟨shown ds G H F, ds, b, shown_sub r, r.show, eg, fun B H' gr => k (unshown G H B) H' F (r.grow (unshown_gr r gr)) (unshown_gr r gr).step⟩
def xNot (h : XF S Bool) : XF S Bool := xb h fun b => xlift (some (!b))
def xAnd (h1 h2 : XF S Bool) : XF S Bool := xb h1 fun b => if b then h2 else xlift (some false)
def xOr (h1 h2 : XF S Bool) : XF S Bool := xb h1 fun b => if b then xlift (some true) else h2
def xIf (h : XF S Bool) (fa fb : XF S D) : XF S D := xb h fun b => if b then fa else fb
theorem ex_if (hc : PT X c (tXT X.K R h1)) (ha : PE X a (tX X.K R fa)) (hb : PE X b (tX X.K R fb)) : PE X (.IfExp c a b pos) (tX X.K R (xIf h1 fa fb)) := PE.imp (pe_ifExp hc ha hb) fun σ H Q ⟨G, F, ds, d, ds', rs, e, k⟩ => by
  obtain ⟨x, ds1, ea, e⟩ := xb_some e
  refine ⟨G, F, ds, x, _, rs, ea, fun G1 H1 F1 r1 s1 => ?_⟩
  cases x with
  | true => exact iteT ⟨G1, F1, ds1, d, ds', r1, by simpa using e, fun v G2 H2 F2 r2 s2 d2 => k v G2 H2 F2 r2 (s1.trans s2) d2⟩
  | false => exact iteF ⟨G1, F1, ds1, d, ds', r1, by simpa using e, fun v G2 H2 F2 r2 s2 d2 => k v G2 H2 F2 r2 (s1.trans s2) d2⟩
def xOrV (fa fb : XF S D) : XF S D := xb fa fun x => xb (xlift (truD x)) fun k => if k then xlift (some x) else fb
end
section
variable {S : Type} {K : PySem.W.Frag} {R : StI S} {G H : Hp} {ds : DS S} {σ : L2.St} {F : Nat → Addr → Prop}
theorem RS.setd (r : RS K R ds σ G H F) (i : Nat) {v : V} {d : D} (h : Den K G v d) : ∃ F', RS K R (ds.set i (some (.d d))) (σ.set i (some v)) G H F' ∧ ∀ a, (∃ j, F' j a) → ∃ j, F j a := by
  by_cases hi : i < ds.length
  · exact ⟨_, r.set i hi (fr := fun _ => False) ⟨h, fun _ z => z⟩ (fun _ z => z.elim) (fun _ z => z.elim), fun a ha => (setF_un a ha).elim (fun z => z) False.elim⟩
  · have h1 : ds.set i (some (.d d)) = ds := List.set_eq_of_length_le (by omega)
    have h2 : σ.set i (some v) = σ := List.set_eq_of_length_le (by rw [← r.len]; omega)
    rw [h1, h2]
    exact ⟨F, r, fun _ z => z⟩
theorem RS.setn (r : RS K R ds σ G H F) (i : Nat) : ∃ F', RS K R (ds.set i none) (σ.set i none) G H F' ∧ ∀ a, (∃ j, F' j a) → ∃ j, F j a := by
  refine ⟨fun j a => j ≠ i ∧ F j a, ⟨r.sub, by rw [List.length_set, List.length_set]; exact r.len, fun j m e => ?_, fun j e a ha => ?_, fun j k a h1 h2 => r.dj j k a h1.2 h2.2, fun j a h => r.dis j a h.2⟩, fun a ⟨j, h⟩ => ⟨j, h.2⟩⟩
  · by_cases hj : i = j
    · subst hj
      by_cases hl : i < ds.length
      · rw [List.getElem?_set_self hl] at e; cases e
      · rw [List.getElem?_eq_none (by rw [List.length_set]; omega)] at e; cases e
    · rw [List.getElem?_set_ne hj] at e ⊢
      obtain ⟨v, h1, h2⟩ := r.own j m e
      exact ⟨v, h1, h2.iff fun a => ⟨fun z => z.2, fun z => ⟨Ne.symm hj, z⟩⟩⟩
  · refine r.emp j (fun m q => e m ?_) a ha.2
    rw [List.getElem?_set_ne (Ne.symm ha.1)]
    exact q
theorem RS.setAll : ∀ {vs : List (Nat × V)} {as : List (Nat × D)} {σ : L2.St} {ds : DS S} {F : Nat → Addr → Prop}, RS K R ds σ G H F → AsgV K G vs as → ∃ F', RS K R (setD ds as) (DL.setAll σ vs) G H F' ∧ ∀ a, (∃ j, F' j a) → ∃ j, F j a
  | _, _, _, _, F, h, .nil => ⟨F, h, fun _ z => z⟩
  | _, _, σ, ds, F, h, .cons (a := p) (b := q) ⟨e, hd⟩ r => by
    obtain ⟨F1, r1, u1⟩ := h.setd q.1 hd
    rw [← e] at r1
    obtain ⟨F2, r2, u2⟩ := RS.setAll (σ := σ.set p.1 (some p.2)) (ds := ds.set p.1 (some (.d q.2))) r1 r
    refine ⟨F2, ?_, fun a z => u1 a (u2 a z)⟩
    rw [e] at r2
    show RS K R (setD (ds.set q.1 (some (.d q.2))) _) (DL.setAll (σ.set p.1 (some p.2)) _) G H F2
    rw [e]
    exact r2
theorem RS.wipe (h : RS K R ds σ G H F) : ∀ vs : List Nat, ∃ F', RS K R (wipeD ds vs) (L2.wipe σ vs) G H F' ∧ ∀ a, (∃ j, F' j a) → ∃ j, F j a
  | [] => ⟨F, h, fun _ z => z⟩
  | v :: vs => by
    obtain ⟨F1, r1, u1⟩ := RS.wipe h vs
    obtain ⟨F2, r2, u2⟩ := r1.setn v
    exact ⟨F2, r2, fun a z => u1 a (u2 a z)⟩
theorem Sub.write [TabL] {G H : Hp} {p : Addr} {o : HO} (s : Sub G H) (hg : G p = none) (n : ∀ u, H p = some u → NT u) : Sub G (upd H p o) := by
  cases e : H p with
  | none => exact s.new e
  | some u => exact s.put hg e (n u e)
theorem Sub.frzs [TabL] {G G2 H H2 : Hp} (s : Sub G H) (sm : Same H H2) (h : ∀ b o, G2 b = some o → H2 b = some o ∧ (G b = some o ∨ NT o)) : Sub G2 H2 := ⟨fun b o e => (h b o e).1, tabs_keep s.tab fun b o e _ => sm b o e, fun b o e => (h b o e).2.elim (s.ng b o) And.left⟩
theorem Sub.more [TabL] {G H H2 : Hp} (s : Sub G H) (sm : Same H H2) : Sub G H2 := s.frzs sm fun b o e => ⟨sm b o (s b o e), .inl e⟩
theorem RS.out (r : RS K R ds σ G H F) {A : Addr} {o : HO} (h1 : G A = none) (h2 : ¬ ∃ j, F j A) (h3 : ∀ u, H A = some u → NT u) : RS K R ds σ G (upd H A o) F where
  sub := r.sub.write h1 h3
  len := r.len
  own := fun i m e => by
    obtain ⟨v, h3, h4⟩ := r.own i m e
    exact ⟨v, h3, h4.mono (Same.refl _) fun a ha => upd_ne fun z => h2 ⟨i, by rw [← z]; exact ha⟩⟩
  emp := r.emp
  dj := r.dj
  dis := r.dis
def keepM : Option (Option (MO S)) → Option (MO S)
  | some (some (.d x)) => some (.d x)
  | _ => none
def mergeD (ds : DS S) : List Nat → DS S → DS S
  | [], din => din
  | v :: vs, din => (mergeD ds vs din).set v (keepM ds[v]?)
theorem RS.merge {dsO : DS S} {σO σ2 : L2.St} {din : DS S} (wO : ∀ (i : Nat) x, dsO[i]? = some (some (MO.d x)) → ∃ v, σO[i]? = some (some v) ∧ Den K G v x) (hl : dsO.length = σO.length) :
    ∀ {own : List Nat} {F : Nat → Addr → Prop}, RS K R din σ2 G H F → (∀ i, i ∉ own → σ2[i]? = σO[i]?) → σ2.length = σO.length → ∃ F', RS K R (mergeD dsO own din) σO G H F' ∧ ∀ a, (∃ j, F' j a) → ∃ j, F j a := by
  intro own F r hout hlen
  have hd : ∀ vs : List Nat, (mergeD dsO vs din).length = din.length := fun vs => by
    induction vs with
    | nil => rfl
    | cons v vs ih => show ((mergeD dsO vs din).set v _).length = _; rw [List.length_set]; exact ih
  have get : ∀ (vs : List Nat) (i : Nat), (mergeD dsO vs din)[i]? = if i ∈ vs then (if i < din.length then some (keepM dsO[i]?) else none) else din[i]? := fun vs => by
    induction vs with
    | nil => intro i; rw [if_neg (by simp)]; rfl
    | cons v vs ih =>
      intro i
      show ((mergeD dsO vs din).set v _)[i]? = _
      by_cases hv : v = i
      · subst hv
        rw [if_pos List.mem_cons_self]
        by_cases hi : v < din.length
        · rw [List.getElem?_set_self (by rw [hd]; exact hi), if_pos hi]
        · rw [List.getElem?_eq_none (by rw [List.length_set, hd]; omega), if_neg hi]
      · rw [List.getElem?_set_ne hv, ih i]
        by_cases hm : i ∈ vs
        · rw [if_pos hm, if_pos (List.mem_cons_of_mem _ hm)]
        · rw [if_neg hm, if_neg (by simp [hm, Ne.symm hv])]
  refine ⟨fun j a => j ∉ own ∧ F j a, ⟨r.sub, by rw [hd, r.len]; exact hlen, fun i m e => ?_, fun i e a ha => ?_, fun i j a h1 h2 => r.dj i j a h1.2 h2.2, fun i a h => r.dis i a h.2⟩, fun a ⟨j, h⟩ => ⟨j, h.2⟩⟩
  · rw [get own i] at e
    by_cases hm : i ∈ own
    · rw [if_pos hm] at e
      split at e
      · have e' : keepM dsO[i]? = some m := Option.some.inj e
        cases q : dsO[i]? with
        | none => rw [q] at e'; cases e'
        | some o =>
          rw [q] at e'
          match o, e' with
          | some (.d x), e' =>
            cases e'
            obtain ⟨v, h1, h2⟩ := wO i x q
            exact ⟨v, h1, h2, fun a z => z.1 hm⟩
      · cases e
    · rw [if_neg hm] at e
      obtain ⟨v, h1, h2⟩ := r.own i m e
      exact ⟨v, by rw [← hout i hm]; exact h1, h2.iff fun a => ⟨fun z => z.2, fun z => ⟨hm, z⟩⟩⟩
  · refine r.emp i (fun m q => e m ?_) a ha.2
    rw [get own i, if_neg ha.1]
    exact q
theorem setAll_out {own : List Nat} {i : Nat} (hi : i ∉ own) : ∀ {l : List (Nat × V)} {σ : L2.St}, (∀ p ∈ l, p.1 ∈ own) → (DL.setAll σ l)[i]? = σ[i]?
  | [], _, _ => rfl
  | p :: l, σ, h => by
    show (DL.setAll (σ.set p.1 (some p.2)) l)[i]? = _
    rw [setAll_out hi fun q hq => h q (List.mem_cons_of_mem _ hq), List.getElem?_set_ne fun z => hi (by rw [← z]; exact h p List.mem_cons_self)]
theorem setAll_len : ∀ {l : List (Nat × V)} {σ : L2.St}, (DL.setAll σ l).length = σ.length
  | [], _ => rfl
  | p :: l, σ => by
    show (DL.setAll (σ.set p.1 (some p.2)) l).length = _
    rw [setAll_len, List.length_set]
end
section
variable {S : Type}
def lcRunX (f : D → DS S → Option (Option D × DS S)) : List D → XF S (List D)
  | [], ds => some ([], ds)
  | x :: xs, ds => (f x ds).bind fun p => (lcRunX f xs p.2).bind fun q => some (match p.1 with
    | some y => (y :: q.1, q.2)
    | none => q)
def lcOneX (own : List Nat) (t : D → Option (List (Nat × D))) (h : XF S Bool) (g : XF S D) : D → DS S → Option (Option D × DS S) := fun x ds =>
  (t x).bind fun as => (h (setD (wipeD ds own) as)).bind fun b => if b.1 then (g b.2).bind fun y => some (some y.1, mergeD ds own y.2) else some (none, mergeD ds own b.2)
def xLc (src : XF S (List D)) (own : List Nat) (t : D → Option (List (Nat × D))) (h : XF S Bool) (g : XF S D) : XF S (MO S) := xb src fun xs => fun ds => (lcRunX (lcOneX own t h g) xs ds).map fun p => (.lst p.1, p.2)
def xYes : XF S Bool := fun ds => some (true, ds)
variable {K : PySem.W.Frag} {R : StI S} {src : XF S (List D)} {own : List Nat} {t : D → Option (List (Nat × D))} {h : XF S Bool} {g : XF S D} {tg : TG}
theorem x_lc {W : Bool} (ht : TGD W K tg t) (ho : ∀ d as, t d = some as → ∀ p ∈ as, p.1 ∈ own) {σ : L2.St} {H : Hp} {Q : VK} (w0 : tO K R (xLc src own t h g) σ H Q) : tLc (tXI W K R src) tg (tXT K R h) (tX K R g) own σ H Q := by
  obtain ⟨G, F, ds, m, dsE, r0, e, k⟩ := w0
  obtain ⟨xs, ds1, ea, e⟩ := xb_some e
  cases er0 : lcRunX (lcOneX own t h g) xs ds1 with
  | none => rw [er0] at e; cases e
  | some pE =>
  rw [er0] at e
  have em : m = .lst pE.1 := by cases e; rfl
  have edE : dsE = pE.2 := by cases e; rfl
  subst em edE
  refine ⟨G, F, ds, xs, ds1, r0, ea, fun J G1 H1 F1 r1 s1 it => fun A hA => ?_⟩
  have hGA : G1 A = none := r1.sub.free hA
  have hFA : ¬ ∃ j, F1 j A := fun ⟨j, hj⟩ => r1.trk j A hj hA
  refine ⟨fun i m Hc => m = xs.length - i ∧ i ≤ xs.length ∧ ∃ Gc Fc dsc vs done rest, RS K R dsc σ Gc Hc Fc ∧ Step G H (fun a => ∃ j, F j a) Gc Hc (fun a => (∃ j, Fc j a) ∨ a = A) ∧ Same G1 Gc ∧ (¬ ∃ j, Fc j A) ∧ Gc A = none ∧ Hc A = some (.lst vs) ∧ vs.length ≤ i ∧ DenAll K Gc vs done ∧
      lcRunX (lcOneX own t h g) (xs.drop i) dsc = some (rest, pE.2) ∧ pE.1 = done ++ rest,
    ⟨xs.length, rfl, Nat.zero_le _, G1, F1, ds1, [], [], pE.1, r1.out hGA hFA (fun u e => by rw [hA] at e; cases e), ?_, Same.refl _, hFA, hGA, upd_same, Nat.le_refl _, .nil, by rw [List.drop_zero, er0], by simp⟩, ?_⟩
  · refine s1.trans ⟨fun a ha o e => ?_, Same.refl _, r1.sub.new hA, fun b hb => .inl hb, fun b hb => ?_⟩
    · rw [upd_ne (ne_of_none e hA)]; exact .inl e
    · rcases hb with hb | hb
      · exact .inl hb
      · exact .inr (by rw [hb]; exact hA)
  rintro i m Hc ⟨rfl, hi, Gc, Fc, dsc, vs, done, rest, rc, sc, gc, nFA, nA, eA, lv, dv, er, ey⟩
  by_cases hlt : i < xs.length
  · refine .inr ⟨it.go i Hc (subT gc rc.sub) hlt, fun H' => ∃ m', m' < xs.length - i ∧ (m' = xs.length - (i + 1) ∧ i + 1 ≤ xs.length ∧ ∃ Gc Fc dsc vs done rest, RS K R dsc σ Gc H' Fc ∧ Step G H (fun a => ∃ j, F j a) Gc H' (fun a => (∃ j, Fc j a) ∨ a = A) ∧ Same G1 Gc ∧ (¬ ∃ j, Fc j A) ∧ Gc A = none ∧ H' A = some (.lst vs) ∧ vs.length ≤ i + 1 ∧ DenAll K Gc vs done ∧
      lcRunX (lcOneX own t h g) (xs.drop (i + 1)) dsc = some (rest, pE.2) ∧ pE.1 = done ++ rest), fun H' x => x, fun x H' y => ?_⟩
    obtain ⟨d, hd, grow⟩ := it.yld i Hc x H' (subT gc rc.sub) hlt y
    obtain ⟨Ga, ga, dx⟩ := grow Gc gc rc.sub
    have ra := rc.grow ga
    have hdrop : xs.drop i = d :: xs.drop (i + 1) := by
      rw [List.drop_eq_getElem_cons hlt]
      rw [List.getElem?_eq_getElem hlt] at hd
      cases hd
      rfl
    rw [hdrop] at er
    unfold lcRunX at er
    cases ef : lcOneX own t h g d dsc with
    | none => rw [ef] at er; cases er
    | some o =>
      rw [ef] at er
      simp only [Option.bind_some] at er
      cases e2 : lcRunX (lcOneX own t h g) (xs.drop (i + 1)) o.2 with
      | none => rw [e2] at er; cases er
      | some rest2 =>
        rw [e2] at er
        simp only [Option.bind_some] at er
        unfold lcOneX at ef
        cases et : t d with
        | none => rw [et] at ef; cases ef
        | some as =>
          rw [et] at ef
          simp only [Option.bind_some] at ef
          refine ht x d as _ Ga H' _ ga.sub dx et fun ws aw => ?_
          have slots := asgV_slots aw (ho d as et)
          refine ⟨by rw [wipe_setAll slots, wipe_wipe], ?_⟩
          obtain ⟨Fw, rw0, uw⟩ := ra.wipe own
          obtain ⟨Fi, ri, ui⟩ := rw0.setAll aw
          have hout : ∀ j, j ∉ own → (setAll (wipe σ own) ws)[j]? = σ[j]? := fun j hj => by rw [setAll_out hj slots, wipe_out hj]
          have hlen : (setAll (wipe σ own) ws).length = σ.length := by rw [setAll_len, wipe_length]
          have nFi : ¬ ∃ j, Fi j A := fun z => nFA (uw A (ui A z))
          have eA' : H' A = some (.lst vs) := ga.all.nt eA
          have nAa : Ga A = none := by
            cases q : Ga A with
            | none => rfl
            | some o' =>
              rcases ga.new A (by rw [q]; simp) with z | z
              · exact absurd nA z
              · rw [eA] at z; cases z
          cases eh : h (setD (wipeD dsc own) as) with
          | none => rw [eh] at ef; cases ef
          | some b =>
            rw [eh] at ef
            simp only [Option.bind_some] at ef
            refine ⟨Ga, Fi, _, b.1, b.2, ri, eh, fun G3 H3 F3 r3 s3 => ?_⟩
            have keepA : ∀ {Ga' Ha' Gb Hb : Hp} {Fa Fb : Nat → Addr → Prop}, Step Ga' Ha' (fun a => ∃ j, Fa j a) Gb Hb (fun a => ∃ j, Fb j a) → Ga' A = none → Ha' A = some (.lst vs) → (¬ ∃ j, Fa j A) → Gb A = none ∧ Hb A = some (.lst vs) ∧ ¬ ∃ j, Fb j A := fun {Ga' Ha' Gb Hb Fa Fb} s z1 z2 z3 => by
              refine ⟨?_, (s.frame A z3 _ z2).nt, fun q => ?_⟩
              · cases q : Gb A with
                | none => rfl
                | some o' =>
                  rcases s.new0 A (by rw [q]; simp) with z | z | z
                  · exact absurd z1 z
                  · rw [z2] at z; cases z
                  · exact absurd z z3
              · rcases s.newf A q with z | z
                · exact z3 z
                · rw [z2] at z; cases z
            obtain ⟨nA3, eA3, nF3⟩ := keepA s3 nAa eA' nFi
            -- the frame's own step from the turn's start
            have lift : ∀ {Gb Hb : Hp} {Fb : Nat → Addr → Prop}, Step Ga H' (fun a => ∃ j, Fi j a) Gb Hb (fun a => ∃ j, Fb j a) → Step Gc Hc (fun a => (∃ j, Fc j a) ∨ a = A) Gb Hb (fun a => (∃ j, Fb j a) ∨ a = A) := fun {Gb Hb Fb} s => by
              refine ⟨fun a ha o e => (ga.all a o e).trans fun u e2 => s.frame a (fun z => ha (.inl (uw a (ui a z)))) u e2, ga.keep.trans s.keep, s.sub, fun b hb => ?_, fun b hb => ?_⟩
              · rcases s.new0 b hb with z | z | z
                · rcases ga.new b z with z | z
                  · exact .inl z
                  · exact .inr (.inl z)
                · exact .inr (.inl (ga.all.free z))
                · exact .inr (.inr (.inl (uw b (ui b z))))
              · rcases hb with hb | hb
                · rcases s.newf b hb with z | z
                  · exact .inl (.inl (uw b (ui b z)))
                  · exact .inr (ga.all.free z)
                · exact .inl (.inr hb)
            have back : ∀ {Gb Hb : Hp} {Fb : Nat → Addr → Prop} {din : DS S}, RS K R din (setAll (wipe σ own) ws) Gb Hb Fb → Same Gc Gb → ∃ F', RS K R (mergeD dsc own din) σ Gb Hb F' ∧ ∀ a, (∃ j, F' j a) → ∃ j, Fb j a := fun {Gb Hb Fb din} rb sg =>
              RS.merge (fun i x q => by obtain ⟨v, h1, h2⟩ := rc.own i _ q; exact ⟨v, h1, h2.1.mono sg⟩) rc.len rb hout hlen
            cases hb : b.1 with
            | false =>
              refine iteF ?_
              rw [hb, if_neg Bool.false_ne_true] at ef
              cases ef
              obtain ⟨F5, r5, u5⟩ := back r3 (ga.keep.trans s3.keep)
              refine ⟨xs.length - (i + 1), by omega, rfl, hlt, G3, F5, _, vs, done, rest2.1, r5, (sc.trans (lift s3)).weaken fun a z => z.elim (fun z => .inl (u5 a z)) .inr, gc.trans (ga.keep.trans s3.keep), fun z => nF3 (u5 A z), nA3, eA3, Nat.le_succ_of_le lv, dv.mono (ga.keep.trans s3.keep), ?_, ?_⟩
              · rw [e2]; cases er; rfl
              · cases er; exact ey
            | true =>
              refine iteT ?_
              rw [hb, if_pos rfl] at ef
              cases eg : g b.2 with
              | none => rw [eg] at ef; cases ef
              | some y0 =>
                rw [eg] at ef
                cases ef
                refine ⟨G3, F3, _, y0.1, y0.2, r3, eg, fun v G4 H4 F4 r4 s4 dy => ?_⟩
                obtain ⟨nA4, eA4, nF4⟩ := keepA s4 nA3 eA3 nF3
                refine ⟨vs, eA4, by have := it.len; omega, ?_⟩
                have sall := s3.trans s4
                obtain ⟨F5, r5, u5⟩ := back r4 (ga.keep.trans sall.keep)
                have nF5 : ¬ ∃ j, F5 j A := fun z => nF4 (u5 A z)
                have st5 := ((sc.trans (lift sall)).weaken (P2 := fun a => (∃ j, F5 j a) ∨ a = A) fun a z => z.elim (fun z => .inl (u5 a z)) .inr)
                have hHA : H A = none ∨ ∃ j, F j A := by
                  rcases sc.newf A (.inr rfl) with z | z
                  · exact .inr z
                  · exact .inl z
                refine ⟨xs.length - (i + 1), by omega, rfl, hlt, G4, F5, _, vs ++ [v], done ++ [y0.1], rest2.1, r5.out nA4 nF5 (fun u e => by rw [eA4] at e; cases e; exact nt_lst), ⟨fun a ha o e => ?_, st5.keep, st5.sub.put nA4 eA4, st5.new0, st5.newf⟩, gc.trans (ga.keep.trans sall.keep), nF5, nA4, upd_same, by rw [List.length_append]; simpa using lv, (dv.mono (ga.keep.trans sall.keep)).append (.cons dy .nil), ?_, ?_⟩
                · have hne : a ≠ A := fun z => by
                    subst z
                    rcases hHA with z | z
                    · rw [z] at e; cases e
                    · exact ha z
                  rw [upd_ne hne]
                  exact st5.frame a ha o e
                · have q := congrArg Prod.snd (Option.some.inj er)
                  have q2 : rest2.2 = pE.2 := q
                  rw [e2, ← q2]
                · have q := congrArg Prod.fst (Option.some.inj er)
                  have q2 : y0.1 :: rest2.1 = rest := q
                  rw [ey, ← q2, List.append_assoc]
                  rfl
  · have e' : i = xs.length := by omega
    subst e'
    refine .inl ⟨it.stop _ Hc (subT gc rc.sub) (Nat.le_refl _) (Nat.le_refl _), ?_⟩
    rw [List.drop_length] at er
    cases er
    rw [List.append_nil] at ey
    have dv' : DenAll K Gc vs pE.1 := by rw [ey]; exact dv
    exact k _ Gc Hc Fc (· = A) rc sc ⟨A, vs, rfl, eA, Nat.le_trans lv it.len, dv', fun a => Iff.rfl⟩ (fun a ha z => nFA (by rw [← ha]; exact z)) fun a ha => by rw [ha]; exact nA
end
end
section
variable {TBL : TabL}
inductive Out (S : Type) where
  | nx (ds : DS S) | rt (m : MO S) (ds : DS S) | bk (ds : DS S) | ct (ds : DS S)
section
variable {S : Type}
def After [TabL] (K : PySem.W.Frag) (R : StI S) (pn : List Nat) (σ : L2.St) (G H : Hp) (P : Addr → Prop) (ds' : DS S) (N : L2.St → Hp → Prop) : Prop :=
  ∀ σ' G' H' F', RS K R ds' σ' G' H' F' → Step G H P G' H' (fun a => ∃ i, F' i a) → (∀ i ∈ pn, σ'[i]? = σ[i]?) → N σ' H'
def SEnd [TabL] (K : PySem.W.Frag) (R : StI S) (pn : List Nat) (σ : L2.St) (G H : Hp) (P : Addr → Prop) (Dn : Ends) : Out S → Prop
  | .nx ds' => After K R pn σ G H P ds' Dn.nx
  | .bk ds' => After K R pn σ G H P ds' Dn.bk
  | .ct ds' => After K R pn σ G H P ds' Dn.ct
  | .rt m ds' => ∀ v σ' G' H' F' fr, RS K R ds' σ' G' H' F' → Step G H P G' H' (fun a => (∃ i, F' i a) ∨ fr a) → OwnAt K R G' H' v m fr → (∀ a, fr a → ¬ ∃ i, F' i a) → (∀ a, fr a → G' a = none) → (∀ i ∈ pn, σ'[i]? = σ[i]?) → Dn.rt v H'
def tS [TabL] (K : PySem.W.Frag) (R : StI S) (pn : List Nat) (g : DS S → Option (Out S)) : TS := fun Dn σ H => ∃ G F ds o, RS K R ds σ G H F ∧ g ds = some o ∧ SEnd K R pn σ G H (fun a => ∃ i, F i a) Dn o
theorem After.shift {K : PySem.W.Frag} {R : StI S} {pn : List Nat} {σ σ1 : L2.St} {G H G1 H1 : Hp} {P P1 : Addr → Prop} {ds' : DS S} {N : L2.St → Hp → Prop} (h : After K R pn σ G H P ds' N) (s : Step G H P G1 H1 P1) (p : ∀ i ∈ pn, σ1[i]? = σ[i]?) : After K R pn σ1 G1 H1 P1 ds' N :=
  fun σ' G' H' F' r t q => h σ' G' H' F' r (s.trans t) fun i hi => (q i hi).trans (p i hi)
theorem SEnd.shift {K : PySem.W.Frag} {R : StI S} {pn : List Nat} {σ σ1 : L2.St} {G H G1 H1 : Hp} {P P1 : Addr → Prop} {Dn : Ends} {o : Out S} (h : SEnd K R pn σ G H P Dn o) (s : Step G H P G1 H1 P1) (p : ∀ i ∈ pn, σ1[i]? = σ[i]?) : SEnd K R pn σ1 G1 H1 P1 Dn o := by
  cases o with
  | nx ds => exact After.shift h s p
  | bk ds => exact After.shift h s p
  | ct ds => exact After.shift h s p
  | rt m ds => exact fun v σ' G' H' F' fr r t o h1 h2 q => h v σ' G' H' F' fr r (s.trans t) o h1 h2 fun i hi => (q i hi).trans (p i hi)
abbrev SF (S : Type) := DS S → Option (Out S)
def gSeq (g h : SF S) : SF S := fun ds => (g ds).bind fun o => match o with
  | .nx ds' => h ds'
  | o => some o
variable {K : PySem.W.Frag} {R : StI S} {pn : List Nat} {g h : SF S} {Dn : Ends} {σ : L2.St} {H : Hp}
theorem s_seq (w : tS K R pn (gSeq g h) Dn σ H) : tSeq (tS K R pn g) (tS K R pn h) Dn σ H := by
  obtain ⟨G, F, ds, o, r, e, k⟩ := w
  unfold gSeq at e
  cases eg : g ds with
  | none => rw [eg] at e; cases e
  | some o1 =>
    rw [eg] at e
    refine ⟨G, F, ds, o1, r, eg, ?_⟩
    cases o1 with
    | nx ds1 => exact fun σ' G' H' F' r' s p => ⟨G', F', ds1, o, r', e, k.shift s p⟩
    | bk ds1 => cases e; exact k
    | ct ds1 => cases e; exact k
    | rt m ds1 => cases e; exact k
def gNext : SF S := fun ds => some (.nx ds)
theorem s_next (w : tS K R pn gNext Dn σ H) : tNext Dn σ H := by
  obtain ⟨G, F, ds, o, r, e, k⟩ := w
  cases e
  exact k σ G H F r (.refl r.sub) fun _ _ => rfl
def gRet (f : XF S (MO S)) : SF S := fun ds => (f ds).map fun p => .rt p.1 p.2
theorem s_ret {f : XF S (MO S)} (w : tS K R pn (gRet f) Dn σ H) : tRet (tO K R f) Dn σ H := by
  obtain ⟨G, F, ds, o, r, e, k⟩ := w
  unfold gRet at e
  cases ef : f ds with
  | none => rw [ef] at e; cases e
  | some p =>
    rw [ef] at e
    cases e
    exact ⟨G, F, ds, p.1, p.2, r, ef, fun v G' H' F' fr r' s o h1 h2 => k v σ G' H' F' fr r' s o h1 h2 fun _ _ => rfl⟩
def gRetN : SF S := fun ds => some (.rt (.d .none) ds)
def gBrk : SF S := fun ds => some (.bk ds)
def gCnt : SF S := fun ds => some (.ct ds)
theorem RS.seto {ds : DS S} {G : Hp} {F : Nat → Addr → Prop} {v : V} {m : MO S} {fr : Addr → Prop} (r : RS K R ds σ G H F) (i : Nat) (o : OwnAt K R G H v m fr) (h1 : ∀ a, fr a → ¬ ∃ j, F j a) (h2 : ∀ a, fr a → G a = none) :
    ∃ F', RS K R (ds.set i (some m)) (σ.set i (some v)) G H F' ∧ ∀ a, (∃ j, F' j a) → (∃ j, F j a) ∨ fr a := by
  by_cases hi : i < ds.length
  · exact ⟨_, r.set i hi o h1 h2, setF_un⟩
  · have h3 : ds.set i (some m) = ds := List.set_eq_of_length_le (by omega)
    have h4 : σ.set i (some v) = σ := List.set_eq_of_length_le (by rw [← r.len]; omega)
    rw [h3, h4]
    exact ⟨F, r, fun _ z => .inl z⟩
def gAsg (i : Nat) (f : XF S (MO S)) : SF S := fun ds => (f ds).map fun p => .nx (p.2.set i (some p.1))
theorem s_asg {i : Nat} {f : XF S (MO S)} (hi : i ∉ pn) (w : tS K R pn (gAsg i f) Dn σ H) : tAsg (tO K R f) (gName i) Dn σ H := by
  obtain ⟨G, F, ds, o, r, e, k⟩ := w
  unfold gAsg at e
  cases ef : f ds with
  | none => rw [ef] at e; cases e
  | some p =>
    rw [ef] at e
    cases e
    refine ⟨G, F, ds, p.1, p.2, r, ef, fun v G' H' F' fr r' s o h1 h2 => ?_⟩
    obtain ⟨F2, r2, u2⟩ := r'.seto i o h1 h2
    exact k _ G' H' F2 r2 (s.weaken u2) fun j hj => by rw [List.getElem?_set_ne fun z => hi (by rw [z]; exact hj)]
def gDrop (f : XF S D) : SF S := fun ds => (f ds).map fun p => .nx p.2
theorem s_drop {f : XF S D} (w : tS K R pn (gDrop f) Dn σ H) : tDrop (tX K R f) Dn σ H := by
  obtain ⟨G, F, ds, o, r, e, k⟩ := w
  unfold gDrop at e
  cases ef : f ds with
  | none => rw [ef] at e; cases e
  | some p =>
    rw [ef] at e
    cases e
    exact ⟨G, F, ds, p.1, p.2, r, ef, fun v G' H' F' r' s _ => k σ G' H' F' r' s fun _ _ => rfl⟩
def gIfS (c : XF S Bool) (g h : SF S) : SF S := fun ds => (c ds).bind fun p => if p.1 then g p.2 else h p.2
theorem s_if {c : XF S Bool} (w : tS K R pn (gIfS c g h) Dn σ H) : tIfS (tXT K R c) (tS K R pn g) (tS K R pn h) Dn σ H := by
  obtain ⟨G, F, ds, o, r, e, k⟩ := w
  unfold gIfS at e
  cases ef : c ds with
  | none => rw [ef] at e; cases e
  | some p =>
    rw [ef] at e
    simp only [Option.bind_some] at e
    refine ⟨G, F, ds, p.1, p.2, r, ef, fun G' H' F' r' s => ?_⟩
    cases hp : p.1 with
    | true =>
      rw [hp, if_pos rfl] at e
      exact iteT ⟨G', F', p.2, o, r', e, k.shift s fun _ _ => rfl⟩
    | false =>
      rw [hp, if_neg Bool.false_ne_true] at e
      exact iteF ⟨G', F', p.2, o, r', e, k.shift s fun _ _ => rfl⟩
def gAsgT (t : D → Option (List (Nat × D))) (f : XF S D) : SF S := fun ds => (f ds).bind fun p => (t p.1).map fun as => .nx (setD p.2 as)
theorem s_asgT {t : D → Option (List (Nat × D))} {tg : TG} {f : XF S D} (ht : TGD false K tg t) (hp : ∀ d as, t d = some as → ∀ p ∈ as, p.1 ∉ pn) (w : tS K R pn (gAsgT t f) Dn σ H) : tAsg (tX K R f) tg Dn σ H := by
  obtain ⟨G, F, ds, o, r, e, k⟩ := w
  unfold gAsgT at e
  cases ef : f ds with
  | none => rw [ef] at e; cases e
  | some p =>
    rw [ef] at e
    simp only [Option.bind_some] at e
    cases et : t p.1 with
    | none => rw [et] at e; cases e
    | some as =>
      rw [et] at e
      cases e
      refine ⟨G, F, ds, p.1, p.2, r, ef, fun v G' H' F' r' s dv => ht v p.1 as σ G' H' _ r'.sub (.inl dv) et fun ws aw => ?_⟩
      obtain ⟨F2, r2, u2⟩ := r'.setAll aw
      refine k _ G' H' F2 r2 (s.weaken u2) fun j hj => setAll_out (own := (as.map (·.1))) (fun z => ?_) (asgV_slots aw fun q hq => List.mem_map_of_mem hq)
      obtain ⟨q, hq, rfl⟩ := List.mem_map.mp z
      exact hp p.1 as et q hq hj
def forRun (t : D → Option (List (Nat × D))) (body : SF S) : List D → SF S
  | [], ds => some (.nx ds)
  | x :: xs, ds => (t x).bind fun as => (body (setD ds as)).bind fun o => match o with
    | .nx ds' => forRun t body xs ds'
    | .ct ds' => forRun t body xs ds'
    | .bk ds' => some (.nx ds')
    | .rt m ds' => some (.rt m ds')
def gFor (src : XF S (List D)) (t : D → Option (List (Nat × D))) (body : SF S) : SF S := fun ds => (src ds).bind fun p => forRun t body p.1 p.2
theorem s_for {W : Bool} {src : XF S (List D)} {t : D → Option (List (Nat × D))} {tg : TG} (ht : TGD W K tg t) (hp : ∀ d as, t d = some as → ∀ p ∈ as, p.1 ∉ pn) (w : tS K R pn (gFor src t g) Dn σ H) : tFor (tXI W K R src) tg (tS K R pn g) Dn σ H := by
  obtain ⟨G, F, ds, o, r, e, k⟩ := w
  unfold gFor at e
  cases ef : src ds with
  | none => rw [ef] at e; cases e
  | some p =>
    rw [ef] at e
    simp only [Option.bind_some] at e
    obtain ⟨xs, ds1⟩ := p
    refine ⟨G, F, ds, xs, ds1, r, ef, fun J G1 H1 F1 r1 s1 it => ?_⟩
    refine ⟨fun i m σc Hc => m = xs.length - i ∧ i ≤ xs.length ∧ ∃ Gc Fc dsc, RS K R dsc σc Gc Hc Fc ∧ Step G H (fun a => ∃ j, F j a) Gc Hc (fun a => ∃ j, Fc j a) ∧ Same G1 Gc ∧ (∀ j ∈ pn, σc[j]? = σ[j]?) ∧ forRun t g (xs.drop i) dsc = some o,
      ⟨xs.length, rfl, Nat.zero_le _, G1, F1, ds1, r1, s1, Same.refl _, fun _ _ => rfl, by simpa using e⟩, ?_⟩
    rintro i m σc Hc ⟨rfl, hi, Gc, Fc, dsc, rc, sc, gc, pc, ec⟩
    by_cases hlt : i < xs.length
    · refine .inr ⟨it.go i Hc (subT gc rc.sub) hlt, fun σ' H' => ∃ m', m' < xs.length - i ∧ (m' = xs.length - (i + 1) ∧ i + 1 ≤ xs.length ∧ ∃ Gc Fc dsc, RS K R dsc σ' Gc H' Fc ∧ Step G H (fun a => ∃ j, F j a) Gc H' (fun a => ∃ j, Fc j a) ∧ Same G1 Gc ∧ (∀ j ∈ pn, σ'[j]? = σ[j]?) ∧ forRun t g (xs.drop (i + 1)) dsc = some o), fun σ' H' z => z, fun x H' y => ?_⟩
      obtain ⟨d, hd, grow⟩ := it.yld i Hc x H' (subT gc rc.sub) hlt y
      obtain ⟨Ga, ga, dx⟩ := grow Gc gc rc.sub
      have ra := rc.grow ga
      have hdrop : xs.drop i = d :: xs.drop (i + 1) := by
        rw [List.drop_eq_getElem_cons hlt]
        rw [List.getElem?_eq_getElem hlt] at hd
        cases hd
        rfl
      rw [hdrop] at ec
      unfold forRun at ec
      cases et : t d with
      | none => rw [et] at ec; cases ec
      | some as =>
        rw [et] at ec
        simp only [Option.bind_some] at ec
        cases eb : g (setD dsc as) with
        | none => rw [eb] at ec; cases ec
        | some o1 =>
          rw [eb] at ec
          simp only [Option.bind_some] at ec
          refine ht x d as σc Ga H' _ ga.sub dx et fun ws aw => ?_
          obtain ⟨F2, r2, u2⟩ := ra.setAll aw
          have sa : Step G H (fun a => ∃ j, F j a) Ga H' (fun a => ∃ j, F2 j a) := (sc.trans ga.step).weaken u2
          have pa : ∀ j ∈ pn, (setAll σc ws)[j]? = σ[j]? := fun j hj => by
            rw [setAll_out (own := (as.map (·.1))) (fun z => ?_) (asgV_slots aw fun q hq => List.mem_map_of_mem hq)]
            · exact pc j hj
            · obtain ⟨q, hq, rfl⟩ := List.mem_map.mp z
              exact hp d as et q hq hj
          refine ⟨Ga, F2, setD dsc as, o1, r2, eb, ?_⟩
          have again : ∀ ds', forRun t g (xs.drop (i + 1)) ds' = some o → After K R pn (setAll σc ws) Ga H' (fun a => ∃ j, F2 j a) ds' (fun σ' H' => ∃ m', m' < xs.length - i ∧ (m' = xs.length - (i + 1) ∧ i + 1 ≤ xs.length ∧ ∃ Gc Fc dsc, RS K R dsc σ' Gc H' Fc ∧ Step G H (fun a => ∃ j, F j a) Gc H' (fun a => ∃ j, Fc j a) ∧ Same G1 Gc ∧ (∀ j ∈ pn, σ'[j]? = σ[j]?) ∧ forRun t g (xs.drop (i + 1)) dsc = some o)) :=
            fun ds' e' σ' G' H2 F' r' s' p' => ⟨xs.length - (i + 1), by omega, rfl, hlt, G', F', ds', r', sa.trans s', gc.trans (ga.keep.trans s'.keep), fun j hj => (p' j hj).trans (pa j hj), e'⟩
          cases o1 with
          | nx ds' => exact again ds' ec
          | ct ds' => exact again ds' ec
          | bk ds' => cases ec; exact After.shift k sa pa
          | rt m ds' => cases ec; exact SEnd.shift (Dn := Dn) (o := .rt m ds') k sa pa
    · have e' : i = xs.length := by omega
      subst e'
      rw [List.drop_length] at ec
      cases ec
      exact .inl ⟨it.stop _ Hc (subT gc rc.sub) (Nat.le_refl _) (Nat.le_refl _), k σc Gc Hc Fc rc sc pc⟩
def whileRun (c : XF S Bool) (body : SF S) : Nat → SF S
  | 0, _ => none
  | n + 1, ds => (c ds).bind fun p => if p.1 then (body p.2).bind fun o => match o with
    | .nx ds' => whileRun c body n ds'
    | .ct ds' => whileRun c body n ds'
    | .bk ds' => some (.nx ds')
    | .rt m ds' => some (.rt m ds')
    else some (.nx p.2)
def gWhile (n : Nat) (c : XF S Bool) (body : SF S) : SF S := fun ds => whileRun c body n ds
theorem s_while {n : Nat} {c : XF S Bool} (w : tS K R pn (gWhile n c g) Dn σ H) : tWhile (tXT K R c) (tS K R pn g) Dn σ H := by
  obtain ⟨G, F, ds, o, r, e, k⟩ := w
  unfold gWhile at e
  refine ⟨fun m σc Hc => ∃ Gc Fc dsc, RS K R dsc σc Gc Hc Fc ∧ Step G H (fun a => ∃ j, F j a) Gc Hc (fun a => ∃ j, Fc j a) ∧ (∀ j ∈ pn, σc[j]? = σ[j]?) ∧ whileRun c g m dsc = some o, ⟨n, G, F, ds, r, .refl r.sub, fun _ _ => rfl, e⟩, ?_⟩
  rintro m σc Hc ⟨Gc, Fc, dsc, rc, sc, pc, ec⟩
  cases m with
  | zero => cases ec
  | succ m =>
    unfold whileRun at ec
    cases eb : c dsc with
    | none => rw [eb] at ec; cases ec
    | some p =>
      rw [eb] at ec
      simp only [Option.bind_some] at ec
      refine ⟨Gc, Fc, dsc, p.1, p.2, rc, eb, fun G' H' F' r' s' => ?_⟩
      cases hp : p.1 with
      | false =>
        rw [hp, if_neg Bool.false_ne_true] at ec
        cases ec
        exact iteF (k σc G' H' F' r' (sc.trans s') pc)
      | true =>
        rw [hp, if_pos rfl] at ec
        cases eo : g p.2 with
        | none => rw [eo] at ec; cases ec
        | some o1 =>
          rw [eo] at ec
          simp only [Option.bind_some] at ec
          refine iteT ⟨fun σ' H2 => ∃ m', m' < m + 1 ∧ ∃ Gc Fc dsc, RS K R dsc σ' Gc H2 Fc ∧ Step G H (fun a => ∃ j, F j a) Gc H2 (fun a => ∃ j, Fc j a) ∧ (∀ j ∈ pn, σ'[j]? = σ[j]?) ∧ whileRun c g m' dsc = some o, fun _ _ z => z, G', F', p.2, o1, r', eo, ?_⟩
          have again : ∀ ds', whileRun c g m ds' = some o → After K R pn σc G' H' (fun a => ∃ j, F' j a) ds' (fun σ' H2 => ∃ m', m' < m + 1 ∧ ∃ Gc Fc dsc, RS K R dsc σ' Gc H2 Fc ∧ Step G H (fun a => ∃ j, F j a) Gc H2 (fun a => ∃ j, Fc j a) ∧ (∀ j ∈ pn, σ'[j]? = σ[j]?) ∧ whileRun c g m' dsc = some o) :=
            fun ds' e' σ' G2 H2 F2 r2 s2 p2 => ⟨m, Nat.lt_succ_self _, G2, F2, ds', r2, (sc.trans s').trans s2, fun j hj => (p2 j hj).trans (pc j hj), e'⟩
          cases o1 with
          | nx ds' => exact again ds' ec
          | ct ds' => exact again ds' ec
          | bk ds' => cases ec; exact After.shift k (sc.trans s') pc
          | rt m ds' => cases ec; exact SEnd.shift (Dn := Dn) (o := .rt m ds') k (sc.trans s') pc
end
inductive OwnAll {S : Type} (K : PySem.W.Frag) (R : StI S) (G H : Hp) : List V → List (MO S) → (Addr → Prop) → Prop
  | nil : OwnAll K R G H [] [] (fun _ => False)
  | cons {v : V} {m : MO S} {vs : List V} {ms : List (MO S)} {f1 f2 : Addr → Prop} : OwnAt K R G H v m f1 → OwnAll K R G H vs ms f2 → (∀ a, f1 a → ¬ f2 a) → OwnAll K R G H (v :: vs) (m :: ms) (fun a => f1 a ∨ f2 a)
section
variable {S : Type}
def tOA [TabL] (K : PySem.W.Frag) (R : StI S) (f : XF S (List (MO S))) : TA := fun σ H Q => ∃ G F ds ms ds', RS K R ds σ G H F ∧ f ds = some (ms, ds') ∧
  ∀ vs G' H' F' fr, RS K R ds' σ G' H' F' → Step G H (fun a => ∃ i, F i a) G' H' (fun a => (∃ i, F' i a) ∨ fr a) → OwnAll K R G' H' vs ms fr → (∀ a, fr a → ¬ ∃ i, F' i a) → (∀ a, fr a → G' a = none) → Q vs H'
def oNil : XF S (List (MO S)) := fun ds => some ([], ds)
def oCons (f : XF S (MO S)) (r : XF S (List (MO S))) : XF S (List (MO S)) := xb f fun x => xb r fun xs => xlift (some (x :: xs))
variable {X : Cx} {R : StI S} {e : Expr} {es : List Expr} {pos : Pos}
theorem ao_nil : PA X [] (tOA X.K R (oNil (S := S))) := PA.imp pa_nil fun σ H Q ⟨G, F, ds, d, ds', rs, e, k⟩ => by
  cases e
  exact k [] G H F _ rs ⟨fun _ _ _ h => .inl h, Same.refl _, rs.sub, fun _ h => .inl h, fun b h => h.elim .inl False.elim⟩ .nil (fun _ z => z.elim) fun _ z => z.elim
theorem ao_cons {f : XF S (MO S)} {fr : XF S (List (MO S))} (ha : PE X e (tO X.K R f)) (hr : PA X es (tOA X.K R fr)) (hs : starEach (e :: es) X.env = (false, eval e X.env) :: starEach es X.env := by rfl) : PA X (e :: es) (tOA X.K R (oCons f fr)) :=
  PA.imp (pa_cons ha hr hs) fun σ H Q ⟨G, F, ds, ms, ds', rs, e, k⟩ => by
    obtain ⟨x, ds1, ea, e⟩ := xb_some e
    obtain ⟨xs, ds2, eb, e⟩ := xb_some e
    obtain ⟨eg, e9⟩ := xlift_some e
    subst e9
    cases eg
    refine ⟨G, F, ds, x, ds1, rs, ea, fun v G1 H1 F1 f1 r1 s1 o1 d1 n1 => ?_⟩
    refine ⟨G1, F1, ds1, xs, _, r1, eb, fun vs G2 H2 F2 f2 r2 s2 o2 d2 n2 => ?_⟩
    have same : ∀ a, f1 a → H2 a = H1 a := fun a ha => by
      cases q : H1 a with
      | none => exact absurd q (o1.trk a ha)
      | some o => exact (s2.frame a (d1 a ha) o q).nt (o1.ntb a ha o q)
    have old : ∀ a, f1 a → H1 a ≠ none := o1.trk
    have s2' : Step G1 H1 (fun a => (∃ i, F1 i a) ∨ f1 a) G2 H2 (fun a => (∃ i, F2 i a) ∨ (f1 a ∨ f2 a)) := by
      refine ⟨fun a ha o q => s2.frame a (fun z => ha (.inl z)) o q, s2.keep, s2.sub, fun b hb => ?_, fun b hb => ?_⟩
      · rcases s2.new0 b hb with z | z | z
        · exact .inl z
        · exact .inr (.inl z)
        · exact .inr (.inr (.inl z))
      · rcases hb with hb | hb | hb
        · exact (s2.newf b (.inl hb)).elim (fun z => .inl (.inl z)) .inr
        · exact .inl (.inr hb)
        · exact (s2.newf b (.inr hb)).elim (fun z => .inl (.inl z)) .inr
    have apart : ∀ a, f1 a → ¬ ((∃ i, F2 i a) ∨ f2 a) := fun a ha z => (s2.newf a z).elim (d1 a ha) (old a ha)
    refine k (v :: vs) G2 H2 F2 _ r2 (s1.trans s2') (.cons (o1.mono s2.keep same) o2 fun a ha z => apart a ha (.inr z)) (fun a ha z => ?_) fun a ha => ?_
    · rcases ha with ha | ha
      · exact apart a ha (.inl z)
      · exact d2 a ha z
    · rcases ha with ha | ha
      · cases q : G2 a with
        | none => rfl
        | some o =>
          rcases s2.new0 a (by rw [q]; simp) with z | z | z
          · exact absurd (n1 a ha) z
          · exact absurd z (old a ha)
          · exact absurd z (d1 a ha)
      · exact n2 a ha
variable {K : PySem.W.Frag} {pn : List Nat} {Dn : Ends} {σ : L2.St} {H : Hp}
def gPar2 (i j : Nat) (f : XF S (List (MO S))) : SF S := fun ds => (f ds).bind fun p => match p.1 with
  | [x, y] => some (.nx ((p.2.set i (some x)).set j (some y)))
  | _ => none
theorem s_par2 {i j : Nat} {f : XF S (List (MO S))} (hi : i ∉ pn) (hj : j ∉ pn) (w : tS K R pn (gPar2 i j f) Dn σ H) : tPar i j (tOA K R f) Dn σ H := by
  obtain ⟨G, F, ds, o, r, e, k⟩ := w
  unfold gPar2 at e
  cases ef : f ds with
  | none => rw [ef] at e; cases e
  | some p =>
    rw [ef] at e
    obtain ⟨ms, ds1⟩ := p
    match ms, e with
    | [x, y], e =>
      cases e
      refine ⟨G, F, ds, [x, y], ds1, r, ef, fun vs G' H' F' fr r' s o h1 h2 => ?_⟩
      cases o with
      | cons o1 o2 d1 =>
        cases o2 with
        | cons o2 o3 d2 =>
          cases o3
          rename_i f1 f2
          obtain ⟨F2, r2, u2⟩ := r'.seto i o1 (fun a ha => h1 a (.inl ha)) fun a ha => h2 a (.inl ha)
          obtain ⟨F3, r3, u3⟩ := r2.seto j o2 (fun a ha z => (u2 a z).elim (h1 a (.inr (.inl ha))) fun q => d1 a q (.inl ha)) fun a ha => h2 a (.inr (.inl ha))
          refine ⟨_, _, rfl, k _ G' H' F3 r3 (s.weaken fun a z => ?_) fun l hl => ?_⟩
          · rcases u3 a z with z | z
            · rcases u2 a z with z | z
              · exact .inl z
              · exact .inr (.inl z)
            · exact .inr (.inr (.inl z))
          · rw [List.getElem?_set_ne fun z => hj (by rw [z]; exact hl), List.getElem?_set_ne fun z => hi (by rw [z]; exact hl)]
def gPar3 (i j l : Nat) (f : XF S (List (MO S))) : SF S := fun ds => (f ds).bind fun p => match p.1 with
  | [x, y, z] => some (.nx (((p.2.set i (some x)).set j (some y)).set l (some z)))
  | _ => none
end
section
variable {S : Type} {K : PySem.W.Frag} {R : StI S} {G H : Hp} {ds : DS S} {σ : L2.St} {F : Nat → Addr → Prop}
def lstAt (ds : DS S) (i : Nat) : Option (List D) := match ds[i]? with
  | some (some (.lst xs)) => some xs
  | _ => none
theorem lstAt_some {i : Nat} {xs : List D} (h : lstAt ds i = some xs) : ds[i]? = some (some (.lst xs)) := by
  unfold lstAt at h
  split at h
  · cases h; assumption
  · cases h
theorem RS.write (r : RS K R ds σ G H F) {i : Nat} {xs ys : List D} {p : Addr} {ws : List V} (e : ds[i]? = some (some (.lst xs))) (hp : σ[i]? = some (some (.ref p))) (hF : ∀ a, F i a ↔ a = p) (z : ws.length ≤ sizeLine) (d : DenAll K G ws ys) :
    RS K R (ds.set i (some (.lst ys))) σ G (upd H p (.lst ws)) F ∧ Step G H (fun a => ∃ j, F j a) G (upd H p (.lst ws)) (fun a => ∃ j, F j a) := by
  have hi : i < ds.length := (List.getElem?_eq_some_iff.mp e).1
  have hg : G p = none := r.dis i p ((hF p).mpr rfl)
  have sub : Sub G (upd H p (.lst ws)) := r.sub.write hg (r.ntb i p ((hF p).mpr rfl))
  refine ⟨⟨sub, by rw [List.length_set]; exact r.len, fun j m q => ?_, fun j q => ?_, r.dj, r.dis⟩, ⟨fun a ha o q => ?_, Same.refl _, sub, fun b hb => .inl hb, fun b hb => .inl hb⟩⟩
  · by_cases hj : i = j
    · subst hj
      rw [List.getElem?_set_self hi] at q
      cases q
      exact ⟨_, hp, p, ws, rfl, upd_same, z, d, hF⟩
    · rw [List.getElem?_set_ne hj] at q
      obtain ⟨v, h1, h2⟩ := r.own j m q
      exact ⟨v, h1, h2.mono (Same.refl _) fun a ha => upd_ne fun q' => hj (r.dj i j a ((hF a).mpr q') ha)⟩
  · by_cases hj : i = j
    · subst hj
      exact absurd (List.getElem?_set_self hi) (q _)
    · rw [List.getElem?_set_ne hj] at q
      exact r.emp j q
  · rw [upd_ne fun q' => ha ⟨i, (hF a).mpr q'⟩]; exact .inl q
variable {X : Cx} {a e : Expr} {es : List Expr} {apos cpos : Pos}
def MtD [TabL] (K : PySem.W.Frag) (r : V → List V → Hp → VK → Prop) (g : List D → List D → Option (D × List D)) : Prop := ∀ p vs xs as ws d ys G H (Q : VK), Sub G H → H p = some (.lst vs) → G p = none → vs.length ≤ sizeLine → DenAll K G vs xs → DenAll K G ws as → g xs as = some (d, ys) →
  (∀ v us, us.length ≤ sizeLine → DenAll K G us ys → Den K G v d → Q v (upd H p (.lst us))) → r (.ref p) ws H Q
def xMt (i : Nat) (g : List D → List D → Option (D × List D)) (f : XF S (List D)) : XF S D := fun ds0 => (lstAt ds0 i).bind fun _ => xb f (fun as => fun ds => (lstAt ds i).bind fun xs => (g xs as).map fun q => (q.1, ds.set i (some (.lst q.2)))) ds0
theorem x_mt {i : Nat} {r : V → List V → Hp → VK → Prop} {g : List D → List D → Option (D × List D)} {f : XF S (List D)} (hr : MtD K r g) {Q : VK} (hty : ∀ p vs (H : Hp), H p = some (.lst vs) → tyV K "list" (.ref p) H) (w : tX K R (xMt i g f) σ H Q) : tBM K "list" r (tVar i) (tXA K R f) σ H Q := by
  obtain ⟨G, F, ds, d, ds', rs, e, k⟩ := w
  unfold xMt at e
  cases e0 : lstAt ds i with
  | none => rw [e0] at e; cases e
  | some ys =>
  rw [e0, Option.bind_some] at e
  obtain ⟨as, ds1, ea, e⟩ := xb_some e
  cases el : lstAt ds1 i with
  | none => rw [el] at e; cases e
  | some xs =>
    rw [el] at e
    simp only [Option.bind_some] at e
    cases eg : g xs as with
    | none => rw [eg] at e; cases e
    | some q =>
      rw [eg] at e
      cases e
      obtain ⟨v0, hv0, p0, vs0, rfl, hp0, _⟩ := rs.own i _ (lstAt_some e0)
      refine ⟨_, hv0, hty p0 vs0 H hp0, G, F, ds, as, ds1, rs, ea, fun ws G1 H1 F1 r1 s1 dw => ?_⟩
      obtain ⟨v1, hv1, p1, vs1, rfl, hp1, z1, d1, f1⟩ := r1.own i _ (lstAt_some el)
      rw [hv0] at hv1
      cases hv1
      have hg1 : G1 p0 = none := r1.dis i p0 ((f1 p0).mpr rfl)
      refine hr p0 vs1 xs as ws q.1 q.2 G1 H1 Q r1.sub hp1 hg1 z1 d1 dw eg fun v us zu du dv => ?_
      obtain ⟨r2, s2⟩ := r1.write (lstAt_some el) hv0 f1 zu du
      exact k v G1 _ F1 r2 (s1.trans s2) dv
def appD (xs as : List D) : Option (D × List D) := match as with
  | [x] => if xs.length < sizeLine then some (.none, xs ++ [x]) else none
  | _ => none
theorem d_app : MtD K rAppend appD := by
  intro p vs xs as ws d ys G H Q s hp hg z dx dw e k
  match as, e with
  | [x], e =>
    simp only [appD] at e
    split at e
    · cases e
      rename_i hz
      match ws, dw with
      | [w], .cons dw .nil => exact ⟨p, vs, w, rfl, rfl, hp, by rw [dx.length]; exact hz, k _ (vs ++ [w]) (by rw [List.length_append, dx.length]; exact hz) (dx.append (.cons dw .nil)) .non⟩
    · cases e
def extD (xs as : List D) : Option (D × List D) := match as with
  | [.list ys] => if xs.length + ys.length ≤ sizeLine then some (.none, xs ++ ys) else none
  | _ => none
theorem d_ext : MtD K rExtend extD := by
  intro p vs xs as ws d ys G H Q s hp hg z dx dw e k
  match as, e with
  | [.list zs], e =>
    simp only [extD] at e
    split at e
    · cases e
      rename_i hz
      match ws, dw with
      | _, .cons (.lst q z2 r) .nil =>
        exact ⟨p, _, vs, _, rfl, rfl, hp, s _ _ q, by rw [dx.length, r.length]; exact hz, k _ (vs ++ _) (by rw [List.length_append, dx.length, r.length]; exact hz) (dx.append r) .non⟩
    · cases e
def gSetI (j : Nat) (f : XF S D) (gi : DS S → Option D) : SF S := fun ds => (f ds).bind fun p => (gi p.2).bind fun i => match i with
  | .int n => (lstAt p.2 j).bind fun xs => (ixN xs.length n).map fun k => .nx (p.2.set j (some (.lst (xs.set k p.1))))
  | _ => none
end
end
section
variable {TBL : TabL}
structure FnG (P : Program) (w : World) (K : PySem.W.Frag) (mg : Str → Option Value) (base : Heap) (C : CXT) (k : Nat) (f : Addr) (fd : FuncData) (ps : List Str) (sp : Sp) : Prop where
  len : ∀ vs H Q E, sp vs H Q E → vs.length = ps.length
  run : ∀ (A : Around) (outer : List Env) (s : Shared) (H : Hp) (args : Args) (us : List Value) (vs : List V) (Q : VK) (E : XK), Room k A → A.guards = some [] → Env0 P w K mg base A outer s H → BindsTo s fd args (ps.zip us) → Vals vs us → sp vs H Q E →
    codeAny (model P w) A (.call (.ref f) args) (CR C outer P w H s Q E) s
theorem FnG.up {P : Program} {w : World} {K : PySem.W.Frag} {mg : Str → Option Value} {base : Heap} {C : CXT} {j k : Nat} {f : Addr} {fd : FuncData} {ps : List Str} {sp : Sp} (F : FnG P w K mg base C j f fd ps sp) (h : j ≤ k) : FnG P w K mg base C k f fd ps sp :=
  ⟨F.len, fun A outer s H args us vs Q E hr => F.run A outer s H args us vs Q E (hr.mono h)⟩
theorem FnG.imp {P : Program} {w : World} {K : PySem.W.Frag} {mg : Str → Option Value} {base : Heap} {C : CXT} {k : Nat} {f : Addr} {fd : FuncData} {ps : List Str} {sp sp' : Sp} (F : FnG P w K mg base C k f fd ps sp) (h : ∀ vs H Q E, sp' vs H Q E → sp vs H Q E) : FnG P w K mg base C k f fd ps sp' :=
  ⟨fun vs H Q E q => F.len vs H Q E (h _ _ _ _ q), fun A outer s H args us vs Q E hr hg he hb hv hs => F.run A outer s H args us vs Q E hr hg he hb hv (h _ _ _ _ hs)⟩
section
variable {X : Cx} {C : CXT} {k : Nat} {f : Addr} {fd : FuncData} {ps : List Str} {sp : Sp} {E : XK} {x : Str} {p pos : Pos} {e : Expr} {es : List Expr} {t : TA}
theorem runG {pins : List (Addr × Obj)} {σ : L2.St} {H : Hp} {s : Shared} {Q : VK} {us : List Value} {vs : List V} (F : FnG X.prog X.w X.K X.mg X.base C k f fd ps sp) (hr : Room k X.A) (hgd : X.A.guards = some []) (hb : Binds X.K fd ps []) (hx : Passes C X E)
    (I : Inv X pins σ H s) (r : Vals vs us) (h : sp vs H Q E) : wpAny (model X.prog X.w) X.A (call (.ref f) us) (EP X pins σ Q) X.xe s := by
  have hz : (us ++ ([] : List Value)).length = ps.length := by
    rw [List.append_nil, ← r.length]
    exact F.len _ _ _ _ h
  have hbind := hb s us I.kIn hz
  rw [List.append_nil] at hbind
  have go := F.run X.A X.stack s H ⟨us, []⟩ us vs Q E hr hgd I.env0 hbind r h
  refine wpAny_call (codeAny_mono go fun res s2 hq => ?_)
  match res, hq with
  | .error er, hq => exact hx pins σ H s er s2 I hq
  | .ok (.ret u), hq => exact I.after hq
  | .ok .next, hq => exact hq.elim
  | .ok .brk, hq => exact hq.elim
  | .ok .cont, hq => exact hq.elim
theorem pe_callG (F : FnG X.prog X.w X.K X.mg X.base C k f fd ps sp) (hr : Room k X.A) (hgd : X.A.guards = some []) (hg : Gl X x) (hm : X.mg x = some (.ref f)) (hk : PySem.W.keepIn X.K (.ref f) = true) (hb : Binds X.K fd ps []) (hx : Passes C X E)
    (ha : PA X (e :: es) t) (hdb : (x == ("__debug__" : Str)) = false := by decide) (he : starEach (e :: es) X.env = (false, eval e X.env) :: starEach es X.env := by rfl) (hpl : (backTo pos (starEach es X.env)).any (·.1) = false := by rfl) :
    PE X (.Call (.Name x p) (e :: es) [] pos) (tCall sp [] E t) :=
  ⟨fun pins s σ H Q I h => wpAny_Call_Name_kw (ld_glob I hg hm (PySem.W.callWith_K (h₀ := X.base) I.ok.mod.kin hk
    (thn (ha.run pos pins s σ H _ I h) fun us s1 ⟨vs, H1, I1, r, q⟩ => ⟨I1.kIn, runG F hr hgd hb hx I1 r (by have q2 : sp (vs ++ []) H1 Q E := q; rw [List.append_nil] at q2; exact q2)⟩) he hpl) hdb)⟩
end
theorem fnG_of {P : Program} {w : World} {K : PySem.W.Frag} {mg : Str → Option Value} {base : Heap} {x qual : Str} {st : Stmt} {f : Addr} {fd : FuncData} {N ps : List Str} {k : Nat} {sp : Sp} (Fn : Fun K x qual st f fd) (sc : FnScope N ps (defScope st))
    (len : ∀ vs H Q E, sp vs H Q E → vs.length = ps.length)
    (hbody : ∀ (cdv : Value) (A : Around) (outer : List Env) (s : Shared) (H : Hp) (vs : List V) (Q : VK) (E : XK), Room k (A.deeper (envOfC qual (defScope st) s.heap.objs.size f cdv)) → (A.deeper (envOfC qual (defScope st) s.heap.objs.size f cdv)).guards = some [] → sp vs H Q E →
      ∃ t, PSs (cxOf CX0 P w K mg base N qual (defScope st) f cdv A outer s H E).nox (defBody st) t ∧ t { nx := fun _ H' => Q .non H', rt := Q } (L2.start N vs) H) : FnG P w K mg base CX0 (k + 1) f fd ps sp := by
  refine ⟨len, fun A outer s H args us vs Q E hr hgd e0 hb r hsp => ?_⟩
  obtain ⟨oc, od, kV, doc, pm, an, cdv, ct, osl, rfl, lk, hcd⟩ := Fn.ex
  have inK : K.In s.heap := e0.mod.kin.keeps fun b o q => (e0.bs b o q).1
  have noLim : s.heap.NoLimit := e0.mod.nolimit.keeps fun b o q => (e0.bs b o q).1
  have kinds : ∀ y ∈ ps.zip us, (defScope st).names.lookup y.1 = some .local ∨ ((defScope st).names.lookup y.1 = some .cell ∧ ((cellsFrom (s.heap.objs.size + 1) (defScope st).names []).lookup y.1).isSome = true) := by
    rintro ⟨n, v⟩ hy
    exact (sc.par n (List.of_mem_zip hy).1).elim .inl fun q => .inr ⟨q, PySem.W.cellsFrom_some _ _ _ (.inl q)⟩
  refine codeAny_call_function hr.depth (inK _ _ lk) rfl sc.co sc.gen rfl (PySem.W.codeRec_of inK hcd) (hb _ _ _ _ (wpAny_newFunctionEnv_cells sc.kind kinds fun env he s1 hin => ?_))
  subst he
  refine ⟨noLim.keeps hin.toInCall.keep, codeAny_func ?_⟩
  obtain ⟨t, ht, hq⟩ := hbody cdv A outer s H vs Q E (hr.deeper _) (by first | exact hgd | (simpa [Around.deeper] using hgd)) hsp
  have I0 : Inv (cxOf CX0 P w K mg base N qual (defScope st) f cdv A outer s H E) [] (L2.start N vs) H s1 := inv_start sc hr.hd e0 (len _ _ _ _ hsp) r hin
  have ends : ∀ {σ' : L2.St} {H' : Hp} {v : V} {u : Value} {s' : Shared}, Inv (cxOf CX0 P w K mg base N qual (defScope st) f cdv A outer s H E) [] σ' H' s' → RelV v u → Q v H' → CE outer P w H s Q u s' := fun J rv q => ⟨_, _, J.os, J.bare, J.base, J.hok, rv, q⟩
  refine wpAny_mono (ht.nox.run [] s1 (L2.start N vs) H _ I0 hq) (fun fl s' hs => ?_) fun _ _ z => z
  match fl, hs with
  | .ret u, ⟨v, σ', H', J, rv, q⟩ => exact ends J rv q
  | .next, ⟨σ', H', J, q⟩ => exact ends (v := V.non) (u := Value.none) J rfl q
  | .brk, ⟨_, _, _, q⟩ => exact q.elim
  | .cont, ⟨_, _, _, q⟩ => exact q.elim
section
variable {S : Type}
def spP [TabL] (K : PySem.W.Frag) (R : StI S) (n : Nat) (F : List D → Option (MO S)) : Sp := fun vs H Q _ => vs.length = n ∧ ∃ G as m, Sub G H ∧ DenAll K G vs as ∧ F as = some m ∧
  ∀ v G' H' fr, Step G H (fun _ => False) G' H' fr → OwnAt K R G' H' v m fr → (∀ a, fr a → G' a = none) → Q v H'
def spS [TabL] (K : PySem.W.Frag) (R : StI S) (n : Nat) (F : S → List D → Option (MO S × S)) : Sp := fun vs H Q _ => vs.length = n ∧ ∃ G fp v0 vr s as m s', vs = v0 :: vr ∧ Sub G H ∧ R.rel G H v0 s fp ∧ (∀ a, fp a → G a = none) ∧ DenAll K G vr as ∧ F s as = some (m, s') ∧
  ∀ v G' H' fp' fr, Step G H fp G' H' (fun a => fp' a ∨ fr a) → R.rel G' H' v0 s' fp' → OwnAt K R G' H' v m fr → (∀ a, fr a → ¬ fp' a) → (∀ a, fp' a ∨ fr a → G' a = none) → Q v H'
def spC [TabL] (K : PySem.W.Frag) (R : StI S) (n : Nat) (F : List Int → List D → Option (MO S)) : Sp := fun vs H Q _ => vs.length = n ∧ ∃ G a vr ns as m, vs = .ref a :: vr ∧ Sub G H ∧ SqL K G a (ns.map V.int) ∧ DenAll K G vr as ∧ F ns as = some m ∧
  ∀ v G' H' fr, Step G H (fun _ => False) G' H' fr → OwnAt K R G' H' v m fr → (∀ a, fr a → G' a = none) → Q v H'
def startD (n : Nat) (as : List (MO S)) : DS S := as.map some ++ List.replicate (n - as.length) none
def outM : Out S → Option (MO S × DS S)
  | .rt m ds => some (m, ds)
  | .nx ds => some (.d .none, ds)
  | _ => none
def stAt (ds : DS S) (i : Nat) : Option S := match ds[i]? with
  | some (some (.st s)) => some s
  | _ => none
theorem stAt_some {ds : DS S} {i : Nat} {s : S} (h : stAt ds i = some s) : ds[i]? = some (some (.st s)) := by
  unfold stAt at h
  split at h
  · cases h; assumption
  · cases h
def runP (n : Nat) (g : SF S) : List D → Option (MO S) := fun as => (g (startD n (as.map .d))).bind fun o => (outM o).map (·.1)
def runS (n : Nat) (g : SF S) : S → List D → Option (MO S × S) := fun s as => (g (startD n (.st s :: as.map .d))).bind fun o => (outM o).bind fun p => (stAt p.2 0).map fun s' => (p.1, s')
def runC (n : Nat) (g : SF S) : List Int → List D → Option (MO S) := fun ns as => (g (startD n (.scr ns :: as.map .d))).bind fun o => (outM o).map (·.1)
variable {K : PySem.W.Frag} {R : StI S} {G H : Hp}
inductive ArgOk (K : PySem.W.Frag) (R : StI S) (G H : Hp) : List V → List (MO S) → (Nat → Addr → Prop) → Prop
  | mk {vs : List V} {ms : List (MO S)} {F : Nat → Addr → Prop} : vs.length = ms.length → (∀ (i : Nat) m, ms[i]? = some m → ∃ v, vs[i]? = some v ∧ OwnAt K R G H v m (F i)) → (∀ (i : Nat), ms.length ≤ i → ∀ a, ¬ F i a) → (∀ i j a, F i a → F j a → i = j) → (∀ i a, F i a → G a = none) → ArgOk K R G H vs ms F
theorem rs_start {N : List Str} {vs : List V} {ms : List (MO S)} {F : Nat → Addr → Prop} (s : Sub G H) (h : ArgOk K R G H vs ms F) : RS K R (startD N.length ms) (L2.start N vs) G H F := by
  obtain ⟨hl, h1, h2, h3, h4⟩ := h
  have gd : ∀ i, (startD N.length ms)[i]? = if i < ms.length then ms[i]?.map some else if i < ms.length + (N.length - ms.length) then some none else none := fun i => by
    unfold startD
    by_cases hi : i < ms.length
    · rw [List.getElem?_append_left (by simpa using hi), if_pos hi, List.getElem?_map]
    · rw [List.getElem?_append_right (by simpa using hi), if_neg hi, List.getElem?_replicate]
      simp only [List.length_map]
      by_cases h2 : i - ms.length < N.length - ms.length
      · rw [if_pos h2, if_pos (by omega)]
      · rw [if_neg h2, if_neg (by omega)]
  refine ⟨s, ?_, fun i m e => ?_, fun i e a ha => ?_, h3, h4⟩
  · unfold startD L2.start
    simp only [List.length_append, List.length_map, List.length_replicate, hl]
  · rw [gd] at e
    by_cases hi : i < ms.length
    · rw [if_pos hi] at e
      cases q : ms[i]? with
      | none => rw [q] at e; cases e
      | some m' =>
        rw [q] at e
        cases e
        obtain ⟨v, hv, o⟩ := h1 i m q
        refine ⟨v, ?_, o⟩
        unfold L2.start
        rw [List.getElem?_append_left (by simpa [hl] using hi), List.getElem?_map, hv]
        rfl
    · rw [if_neg hi] at e
      split at e <;> cases e
  · by_cases hi : i < ms.length
    · have q : ms[i]? = some ms[i] := List.getElem?_eq_getElem hi
      exact e ms[i] (by rw [gd, if_pos hi, q]; rfl)
    · exact h2 i (by omega) a ha
theorem argOk_data {vs : List V} {as : List D} (d : DenAll K G vs as) : ArgOk K R G H vs (as.map .d) (fun _ _ => False) := by
  refine .mk (by rw [List.length_map, d.length]) (fun i m e => ?_) (fun _ _ _ z => z) (fun _ _ _ z => z.elim) fun _ _ z => z.elim
  rw [List.getElem?_map] at e
  cases q : as[i]? with
  | none => rw [q] at e; cases e
  | some x =>
    rw [q] at e
    cases e
    obtain ⟨v, h1, h2⟩ := d.get q
    exact ⟨v, h1, h2, fun _ z => z⟩
theorem argOk_first {v0 : V} {m0 : MO S} {vr : List V} {as : List D} {fp : Addr → Prop} (o : OwnAt K R G H v0 m0 fp) (n : ∀ a, fp a → G a = none) (d : DenAll K G vr as) : ArgOk K R G H (v0 :: vr) (m0 :: as.map .d) (fun i a => i = 0 ∧ fp a) := by
  refine .mk (by simp [d.length]) (fun i m e => ?_) (fun i hi a z => ?_) (fun i j a z1 z2 => by rw [z1.1, z2.1]) fun i a z => n a z.2
  · cases i with
    | zero => cases e; exact ⟨v0, rfl, o.iff fun a => ⟨fun z => z.2, fun z => ⟨rfl, z⟩⟩⟩
    | succ i =>
      have e' : (as.map (MO.d (S := S)))[i]? = some m := by simpa using e
      rw [List.getElem?_map] at e'
      cases q : as[i]? with
      | none => rw [q] at e'; cases e'
      | some x =>
        rw [q] at e'
        cases e'
        obtain ⟨v, h1, h2⟩ := d.get q
        exact ⟨v, by simpa using h1, h2, fun a z => by cases z.1⟩
  · rw [z.1] at hi
    simp at hi
section
variable {P : Program} {w : World} {mg : Str → Option Value} {base : Heap} {x qual : Str} {st : Stmt} {f : Addr} {fd : FuncData} {N ps : List Str} {k : Nat} {g : SF S}
abbrev BodyOk [TabL] (P : Program) (w : World) (K : PySem.W.Frag) (mg : Str → Option Value) (base : Heap) (N : List Str) (qual : Str) (st : Stmt) (f : Addr) (k : Nat) (R : StI S) (pn : List Nat) (g : SF S) : Prop :=
  ∀ (cdv : Value) (A : Around) (outer : List Env) (s : Shared) (H : Hp) (E : XK), Room k (A.deeper (envOfC qual (defScope st) s.heap.objs.size f cdv)) → (A.deeper (envOfC qual (defScope st) s.heap.objs.size f cdv)).guards = some [] →
    PSs (cxOf CX0 P w K mg base N qual (defScope st) f cdv A outer s H E).nox (defBody st) (tS K R pn g)
theorem fn_P (Fn : Fun K x qual st f fd) (sc : FnScope N ps (defScope st)) (hbody : BodyOk P w K mg base N qual st f k R [] g) : FnG P w K mg base CX0 (k + 1) f fd ps (spP K R ps.length (runP N.length g)) := by
  refine fnG_of Fn sc (fun vs H Q E h => h.1) fun cdv A outer s H vs Q E hr hgd h => ⟨_, hbody cdv A outer s H E hr hgd, ?_⟩
  obtain ⟨hl, G, as, m, sm, d, e, q⟩ := h
  unfold runP at e
  cases eg : g (startD N.length (as.map .d)) with
  | none => rw [eg] at e; cases e
  | some o =>
    rw [eg] at e
    have r := rs_start (N := N) sm (argOk_data (R := R) (H := H) d)
    refine ⟨G, _, _, o, r, eg, ?_⟩
    have nf : ∀ {G' H' : Hp} {P' : Addr → Prop}, Step G H (fun a => ∃ (i : Nat), False) G' H' P' → Step G H (fun _ => False) G' H' P' := fun s => ⟨fun a _ o e => s.frame a (fun ⟨_, z⟩ => z) o e, s.keep, s.sub, fun b hb => by
      rcases s.new0 b hb with z | z | ⟨_, z⟩
      · exact .inl z
      · exact .inr (.inl z)
      · exact z.elim, fun b hb => (s.newf b hb).elim (fun ⟨_, z⟩ => z.elim) .inr⟩
    cases o with
    | nx ds' =>
      cases e
      exact fun σ' G' H' F' r' s' _ => q .non G' H' (fun _ => False) ((nf s').weaken fun _ z => z.elim) ⟨.non, fun _ z => z⟩ fun _ z => z.elim
    | rt m' ds' =>
      cases e
      exact fun v σ' G' H' F' fr r' s' o' h1 h2 _ => q v G' H' fr ((nf s').weaken fun _ z => .inr z) o' h2
    | bk ds' => cases e
    | ct ds' => cases e
theorem fn_C (Fn : Fun K x qual st f fd) (sc : FnScope N ps (defScope st)) (hbody : BodyOk P w K mg base N qual st f k R [] g) : FnG P w K mg base CX0 (k + 1) f fd ps (spC K R ps.length (runC N.length g)) := by
  refine fnG_of Fn sc (fun vs H Q E h => h.1) fun cdv A outer s H vs Q E hr hgd h => ⟨_, hbody cdv A outer s H E hr hgd, ?_⟩
  obtain ⟨hl, G, a0, vr, ns, as, m, rfl, sm, sq, d, e, q⟩ := h
  unfold runC at e
  cases eg : g (startD N.length (.scr ns :: as.map .d)) with
  | none => rw [eg] at e; cases e
  | some o =>
    rw [eg] at e
    have r := rs_start (N := N) sm (argOk_first (R := R) (H := H) (v0 := .ref a0) (m0 := .scr ns) (fp := fun _ => False) ⟨⟨a0, rfl, sq⟩, fun _ z => z⟩ (fun _ z => z.elim) d)
    refine ⟨G, _, _, o, r, eg, ?_⟩
    have nf : ∀ {G' H' : Hp} {P' : Addr → Prop}, Step G H (fun a => ∃ (i : Nat), i = 0 ∧ False) G' H' P' → Step G H (fun _ => False) G' H' P' := fun s => ⟨fun a _ o e => s.frame a (fun ⟨_, _, z⟩ => z) o e, s.keep, s.sub, fun b hb => by
      rcases s.new0 b hb with z | z | ⟨_, _, z⟩
      · exact .inl z
      · exact .inr (.inl z)
      · exact z.elim, fun b hb => (s.newf b hb).elim (fun ⟨_, _, z⟩ => z.elim) .inr⟩
    cases o with
    | nx ds' =>
      cases e
      exact fun σ' G' H' F' r' s' _ => q .non G' H' (fun _ => False) ((nf s').weaken fun _ z => z.elim) ⟨.non, fun _ z => z⟩ fun _ z => z.elim
    | rt m' ds' =>
      cases e
      exact fun v σ' G' H' F' fr r' s' o' h1 h2 _ => q v G' H' fr ((nf s').weaken fun _ z => .inr z) o' h2
    | bk ds' => cases e
    | ct ds' => cases e
theorem fn_S (Fn : Fun K x qual st f fd) (sc : FnScope N ps (defScope st)) (hbody : BodyOk P w K mg base N qual st f k R [0] g) : FnG P w K mg base CX0 (k + 1) f fd ps (spS K R ps.length (runS N.length g)) := by
  refine fnG_of Fn sc (fun vs H Q E h => h.1) fun cdv A outer s H vs Q E hr hgd h => ⟨_, hbody cdv A outer s H E hr hgd, ?_⟩
  obtain ⟨hl, G, fp, v0, vr, t, as, m, t', rfl, sm, rel, nn, d, e, q⟩ := h
  unfold runS at e
  cases eg : g (startD N.length (.st t :: as.map .d)) with
  | none => rw [eg] at e; cases e
  | some o =>
    rw [eg] at e
    simp only [Option.bind_some] at e
    have r := rs_start (N := N) sm (argOk_first (R := R) (H := H) (v0 := v0) (m0 := .st t) (fp := fp) rel nn d)
    refine ⟨G, _, _, o, r, eg, ?_⟩
    have nf : ∀ {G' H' : Hp} {P' : Addr → Prop}, Step G H (fun a => ∃ (i : Nat), i = 0 ∧ fp a) G' H' P' → Step G H fp G' H' P' := fun s => ⟨fun a ha o e => s.frame a (fun ⟨_, _, z⟩ => ha z) o e, s.keep, s.sub, fun b hb => by
      rcases s.new0 b hb with z | z | ⟨_, _, z⟩
      · exact .inl z
      · exact .inr (.inl z)
      · exact .inr (.inr z), fun b hb => (s.newf b hb).elim (fun ⟨_, _, z⟩ => .inl z) .inr⟩
    have st0 : (L2.start N (v0 :: vr))[0]? = some (some v0) := rfl
    have fin : ∀ (m' : MO S) (ds' : DS S), (outM o) = some (m', ds') → (stAt ds' 0).map (fun s' => (m', s')) = some (m, t') ∧ True := fun m' ds' h => by
      rw [h] at e
      exact ⟨e, trivial⟩
    cases o with
    | nx ds' =>
      intro σ' G' H' F' r' s' p'
      obtain ⟨e1, _⟩ := fin _ _ rfl
      cases es : stAt ds' 0 with
      | none => rw [es] at e1; cases e1
      | some t2 =>
        rw [es] at e1
        cases e1
        obtain ⟨v1, hv1, o1⟩ := r'.own 0 _ (stAt_some es)
        have hp := p' 0 (List.mem_singleton.mpr rfl)
        rw [hv1, st0] at hp
        cases hp
        exact q .non G' H' (F' 0) (fun _ => False) ((nf s').weaken fun b z => z.elim (fun z => ⟨0, z⟩) False.elim) o1 ⟨.non, fun _ z => z⟩ (fun _ z => z.elim) fun b z => z.elim (fun z => r'.dis 0 b z) False.elim
    | rt m' ds' =>
      intro v σ' G' H' F' fr r' s' o' h1 h2 p'
      obtain ⟨e1, _⟩ := fin _ _ rfl
      cases es : stAt ds' 0 with
      | none => rw [es] at e1; cases e1
      | some t2 =>
        rw [es] at e1
        cases e1
        obtain ⟨v1, hv1, o1⟩ := r'.own 0 _ (stAt_some es)
        have hp := p' 0 (List.mem_singleton.mpr rfl)
        rw [hv1, st0] at hp
        cases hp
        exact q v G' H' (F' 0) fr ((nf s').weaken fun b z => z.elim (fun z => .inl ⟨0, z⟩) .inr) o1 o' (fun b z y => h1 b z ⟨0, y⟩) fun b z => z.elim (fun z => r'.dis 0 b z) (h2 b)
    | bk ds' => cases e
    | ct ds' => cases e
end
variable {X : Cx} {R : StI S} {C : CXT} {k n : Nat} {f : Addr} {fd : FuncData} {ps : List Str} {x : Str} {p pos : Pos} {e : Expr} {es : List Expr}
def toD : MO S → Option D
  | .d x => some x
  | .lst xs => some (.list xs)
  | .dic kvs => some (.dict ((.none, .bool true) :: encKs kvs))
  | _ => none
theorem step_gr {G H G' H' : Hp} {P' : Addr → Prop} (s : Step G H (fun _ => False) G' H' P') : Gr G H G' H' := ⟨s.keep, s.sub, fun a o e => s.frame a (fun z => z) o e, fun b hb => (s.new0 b hb).elim .inl fun z => z.elim .inr False.elim⟩
def gCallP (n : Nat) (F : List D → Option (MO S)) (gs : DS S → Option (List D)) : DS S → Option D := fun ds => (gs ds).bind fun as => if as.length = n then (F as).bind toD else none
theorem p_call {F : List D → Option (MO S)} {gs : DS S → Option (List D)} {σ : L2.St} {H : Hp} {Q : VK} (h : tP K (gCallP n F gs) σ H Q) : tCall (spP K R n F) [] E0 (tPA K gs) σ H Q := by
  obtain ⟨G, ds, d, s, w, e, k⟩ := h
  unfold gCallP at e
  cases ea : gs ds with
  | none => rw [ea] at e; cases e
  | some as =>
    rw [ea] at e
    simp only [Option.bind_some] at e
    split at e
    · rename_i hn
      cases ef : F as with
      | none => rw [ef] at e; cases e
      | some m =>
        rw [ef] at e
        refine ⟨G, ds, as, s, w, ea, fun vs G1 H1 g1 d1 => ?_⟩
        show spP K R n F (vs ++ []) H1 Q E0
        rw [List.append_nil]
        refine ⟨by rw [d1.length]; exact hn, G1, as, m, g1.sub, d1, ef, fun v G2 H2 fr s2 o n2 => ?_⟩
        cases m with
        | d x => cases e; exact k v G2 H2 (g1.trans (step_gr s2)) o.1
        | lst xs =>
          cases e
          obtain ⟨q, vs2, rfl, hq, z, dd, fq⟩ := o
          have hG : G2 q = none := n2 q ((fq q).mpr rfl)
          have hH : H1 q = none := (s2.newf q ((fq q).mpr rfl)).elim False.elim fun z => z
          exact k _ (upd G2 q (.lst vs2)) H2 (g1.trans ((step_gr s2).freeze hG hH hq)) (.lst upd_same z (dd.mono fun b u e => by rw [upd_ne (ne_of_none e hG)]; exact e))
        | st s => cases e
        | scr ns => cases e
        | dic kvs =>
          cases e
          obtain ⟨q, vs2, rfl, hq, z, dd, fq⟩ := o
          have hG : G2 q = none := n2 q ((fq q).mpr rfl)
          have hH : H1 q = none := (s2.newf q ((fq q).mpr rfl)).elim False.elim fun z => z
          exact k _ (upd G2 q (.dK vs2)) H2 (g1.trans ((step_gr s2).freeze hG hH hq)) (.dct upd_same z (kvs_den (dd.mono fun b u e => by rw [upd_ne (ne_of_none e hG)]; exact e)))
        | lk kvs => cases e
        | dp x => cases e
        | obj x fs => cases e
    · cases e
theorem ep_call {F : List D → Option (MO S)} {gs : DS S → Option (List D)} (Fn : FnG X.prog X.w X.K X.mg X.base CX0 k f fd ps (spP X.K R n F)) (hr : Room k X.A) (hgd : X.A.guards = some []) (hg : Gl X x) (hm : X.mg x = some (.ref f)) (hk : PySem.W.keepIn X.K (.ref f) = true) (hb : Binds X.K fd ps [])
    (ha : PA X (e :: es) (tPA X.K gs)) (hdb : (x == ("__debug__" : Str)) = false := by decide) (he : starEach (e :: es) X.env = (false, eval e X.env) :: starEach es X.env := by rfl) (hpl : (backTo pos (starEach es X.env)).any (·.1) = false := by rfl) :
    PE X (.Call (.Name x p) (e :: es) [] pos) (tP X.K (gCallP n F gs)) := PE.imp (pe_callG Fn hr hgd hg hm hk hb pass0 ha hdb he hpl) fun _ _ _ h => p_call h
def oCallP (n : Nat) (F : List D → Option (MO S)) (fs : XF S (List D)) : XF S (MO S) := xb fs fun as => xlift (if as.length = n then F as else none)
theorem RS.callee {ds : DS S} {σ : L2.St} {F : Nat → Addr → Prop} {G H G2 H2 : Hp} {fr : Addr → Prop} (r : RS K R ds σ G H F) (s : Step G H (fun _ => False) G2 H2 fr) : RS K R ds σ G2 H2 F ∧ Step G H (fun a => ∃ i, F i a) G2 H2 (fun a => (∃ i, F i a) ∨ fr a) ∧ ∀ a, fr a → ¬ ∃ i, F i a := by
  refine ⟨r.grow (step_gr s), ⟨fun a _ o e => s.frame a (fun z => z) o e, s.keep, s.sub, fun b hb => (s.new0 b hb).elim .inl fun z => z.elim (fun z => .inr (.inl z)) False.elim, fun b hb => hb.elim .inl fun z => .inr ((s.newf b z).elim False.elim fun z => z)⟩, fun a ha ⟨i, hi⟩ => ?_⟩
  exact r.trk i a hi ((s.newf a ha).elim False.elim fun z => z)
theorem o_call {F : List D → Option (MO S)} {fs : XF S (List D)} {σ : L2.St} {H : Hp} {Q : VK} (h : tO K R (oCallP n F fs) σ H Q) : tCall (spP K R n F) [] E0 (tXA K R fs) σ H Q := by
  obtain ⟨G, F0, ds, m, ds', rs, e, k⟩ := h
  obtain ⟨as, ds1, ea, e⟩ := xb_some e
  obtain ⟨eg, e9⟩ := xlift_some e
  subst e9
  by_cases hn : as.length = n
  · rw [if_pos hn] at eg
    refine ⟨G, F0, ds, as, _, rs, ea, fun vs G1 H1 F1 r1 s1 d1 => ?_⟩
    show spP K R n F (vs ++ []) H1 Q E0
    rw [List.append_nil]
    refine ⟨by rw [d1.length]; exact hn, G1, as, m, r1.sub, d1, eg, fun v G2 H2 fr s2 o n2 => ?_⟩
    obtain ⟨r2, s3, ap⟩ := r1.callee s2
    exact k v G2 H2 F1 fr r2 (s1.trans s3) o ap n2
  · rw [if_neg hn] at eg; cases eg
theorem eo_call {F : List D → Option (MO S)} {fs : XF S (List D)} (Fn : FnG X.prog X.w X.K X.mg X.base CX0 k f fd ps (spP X.K R n F)) (hr : Room k X.A) (hgd : X.A.guards = some []) (hg : Gl X x) (hm : X.mg x = some (.ref f)) (hk : PySem.W.keepIn X.K (.ref f) = true) (hb : Binds X.K fd ps [])
    (ha : PA X (e :: es) (tXA X.K R fs)) (hdb : (x == ("__debug__" : Str)) = false := by decide) (he : starEach (e :: es) X.env = (false, eval e X.env) :: starEach es X.env := by rfl) (hpl : (backTo pos (starEach es X.env)).any (·.1) = false := by rfl) :
    PE X (.Call (.Name x p) (e :: es) [] pos) (tO X.K R (oCallP n F fs)) := PE.imp (pe_callG Fn hr hgd hg hm hk hb pass0 ha hdb he hpl) fun _ _ _ h => o_call h
def oCallS (n i : Nat) (F : S → List D → Option (MO S × S)) (fs : XF S (List D)) : XF S (MO S) := fun ds0 => (stAt ds0 i).bind fun _ => xb fs (fun as => fun ds => (stAt ds i).bind fun s => if as.length + 1 = n then (F s as).map fun q => (q.1, ds.set i (some (.st q.2))) else none) ds0
def scrAt (ds : DS S) (i : Nat) : Option (List Int) := match ds[i]? with
  | some (some (.scr ns)) => some ns
  | _ => none
theorem scrAt_some {ds : DS S} {i : Nat} {ns : List Int} (h : scrAt ds i = some ns) : ds[i]? = some (some (.scr ns)) := by
  unfold scrAt at h
  split at h
  · cases h; assumption
  · cases h
def oCallC (n i : Nat) (F : List Int → List D → Option (MO S)) (fs : XF S (List D)) : XF S (MO S) := fun ds0 => (scrAt ds0 i).bind fun ns => xb fs (fun as => fun ds => if as.length + 1 = n then (F ns as).map fun m => (m, ds) else none) ds0
mutual
theorem noDict_lay : ∀ (d : D), d.canLay0 = true → d.hasDict = false
  | .none, _ => rfl
  | .bool _, _ => rfl
  | .int _, _ => rfl
  | .str _, _ => rfl
  | .list xs, h => by unfold PyData.canLay0 at h; unfold PyData.hasDict; exact noDict_layAll xs h
  | .tuple xs, h => by unfold PyData.canLay0 at h; unfold PyData.hasDict; exact noDict_layAll xs h
  | .dict _, h => by unfold PyData.canLay0 at h; cases h
theorem noDict_layAll : ∀ (ds : List D), PyData.canLayAll0 ds = true → PyData.hasDictAll ds = false
  | [], _ => rfl
  | x :: xs, h => by
    unfold PyData.canLayAll0 at h
    obtain ⟨h1, h2⟩ := Bool.and_eq_true_iff.mp h
    unfold PyData.hasDictAll
    rw [noDict_lay x h1, noDict_layAll xs h2]
    rfl
end
end
end
section
variable {TBL : TabL}
def noT (H : Hp) : Hp := fun b => match H b with
  | some (.tbl _) => none
  | some (.ext _) => none
  | o => o
theorem noT_of {H : Hp} {b : Addr} {o : HO} (e : noT H b = some o) : H b = some o ∧ NT o := by
  unfold noT at e
  split at e
  · cases e
  · cases e
  · rename_i h h2
    exact ⟨e, fun ps z => h ps (by rw [e, z]), fun f z => h2 f (by rw [e, z])⟩
theorem noT_mk {H : Hp} {b : Addr} {o : HO} (e : H b = some o) (n : NT o := by exact ⟨nofun, nofun⟩) : noT H b = some o := by
  unfold noT
  rw [e]
  split
  · rename_i z
    cases z
    exact absurd rfl (n.1 _)
  · rename_i z
    cases z
    exact absurd rfl (n.2 _)
  · rfl
theorem noT_sub [TabL] {H : Hp} (t : LamX.Tabs TabL.T H) : Sub (noT H) H := ⟨fun b o e => (noT_of e).1, t, fun b o e => (noT_of e).2.1⟩
theorem noT_sql {K : PySem.W.Frag} {H : Hp} {a : Addr} {xs : List V} (h : SqL K H a xs) : SqL K (noT H) a xs := by
  rcases h with (h | ⟨o, h⟩) | h
  · exact .inl (.inl (noT_mk h))
  · exact .inl (.inr ⟨o, noT_mk h⟩)
  · exact .inr h
theorem sp_ofT [TabL] {S : Type} {K : PySem.W.Frag} {R : StI S} {F : List Int → List D → Option (MO S)} {n : Nat} (h : ∀ ns : List Int, ns.length ≤ n → F ns [] = some (.d (.bool true))) (H : Hp) (a : Addr) (ns : List Int) (hl : ns.length ≤ n) (hS : SqL K H a (ns.map V.int)) (hT : LamX.Tabs TabL.T H) :
    spC K R 1 F [.ref a] H (fun v _ => v = .bl true) E0 :=
  ⟨rfl, noT H, a, [], ns, [], .d (.bool true), rfl, noT_sub hT, noT_sql hS, .nil, h ns hl, fun v G2 H2 fr s o _ => by cases o.1; rfl⟩
@[reducible] def noTab : TabL := ⟨[]⟩
end
section
variable {TBL : TabL}
section
variable {prog : Program} {w : World} {A : Around} {E : Value → Shared → Prop} {s : Shared}
end
section
variable {S : Type} {X : Cx} {K : PySem.W.Frag} {tg e : Expr} {G : Hp} {g1 : DS S → Option (List D)} {p pos tpos : Pos} {elts : List Expr} {kk : Nat}
end
end
section
variable {TBL : TabL}
theorem psi {X : Cx} {st : Stmt} {t t' : TS} (h : PS X st t) (i : ∀ D σ H, t' D σ H → t D σ H) : PS X st t' := ⟨fun pins s σ H D I q => h.run pins s σ H D I (i D σ H q)⟩
theorem pssi {X : Cx} {st : List Stmt} {t t' : TS} (h : PSs X st t) (i : ∀ D σ H, t' D σ H → t D σ H) : PSs X st t' := ⟨fun pins s σ H D I q => h.run pins s σ H D I (i D σ H q)⟩
section
variable {S : Type} {X : Cx} {R : StI S} {pn : List Nat} {st : Stmt} {rest a b : List Stmt} {g h : SF S} {e c tg iter : Expr} {pos : Pos}
theorem ss_seq (h1 : PS X st (tS X.K R pn g)) (h2 : PSs X rest (tS X.K R pn h)) : PSs X (st :: rest) (tS X.K R pn (gSeq g h)) := pssi (pss_cons h1 h2) fun _ _ _ => s_seq
theorem ss_one (h1 : PS X st (tS X.K R pn g)) : PSs X [st] (tS X.K R pn g) := pss_one h1
theorem ss_nil : PSs X [] (tS X.K R pn (gNext (S := S))) := pssi pss_nil fun _ _ _ => s_next
theorem ss_ret {f : XF S (MO S)} (he : PE X e (tO X.K R f)) : PS X (.Return (some e) pos) (tS X.K R pn (gRet f)) := psi (ps_ret he) fun _ _ _ => s_ret
theorem ss_set {i : Nat} {x : Str} {f : XF S (MO S)} {pos' : Pos} (hp : i ∉ pn) (hN : X.N.Nodup) (hi : X.N[i]? = some x) (hx : Loc X.env.scope x) (he : PE X e (tO X.K R f)) (hs : swapsWith e (some (.Name x pos')) pos.line X.env = pure false := by rfl) (hf : X.fn x = true ∨ X.env.scope.names.lookup x = some .local := by first | exact .inl rfl | exact .inr rfl | assumption) :
    PS X (.Assign [.Name x pos'] e pos) (tS X.K R pn (gAsg i f)) := psi (ps_set hN hi hx he hs hf) fun _ _ _ => s_asg hp
theorem ss_drop {f : XF S D} (he : PE X e (tX X.K R f)) (hs : swapsWith e none pos.line X.env = pure false := by rfl) : PS X (.Expr e pos) (tS X.K R pn (gDrop f)) := psi (ps_expr he hs) fun _ _ _ => s_drop
theorem ss_if {f : XF S Bool} (hc : PT X c (tXT X.K R f)) (ha : PSs X a (tS X.K R pn g)) (hb : PSs X b (tS X.K R pn h)) : PS X (.If c a b pos) (tS X.K R pn (gIfS f g h)) := psi (ps_if hc ha hb) fun _ _ _ => s_if
theorem ss_asgT {t : D → Option (List (Nat × D))} {gt : TG} {f : XF S D} (ht : TGD false X.K gt t) (hp : ∀ d as, t d = some as → ∀ p ∈ as, p.1 ∉ pn) (he : PE X e (tX X.K R f)) (hg : PG X tg gt) (hs : swapsWithSole [tg] e pos.line X.env = pure false := by rfl) (hw : swappedStores [tg] e X.env = pure none := by rfl)
    (h1 : (assignEach [tg] X.env).map (·.2) = [assign tg X.env] := by rfl) : PS X (.Assign [tg] e pos) (tS X.K R pn (gAsgT t f)) := psi (ps_asg he hg hs hw h1) fun _ _ _ => s_asgT ht hp
theorem ss_for {W : Bool} {src : XF S (List D)} {t : D → Option (List (Nat × D))} {gt : TG} (ht : TGD W X.K gt t) (hp : ∀ d as, t d = some as → ∀ p ∈ as, p.1 ∉ pn) (hc : X.nox.calm = true) (hi : PI X.nox tg iter (tXI W X.K R src)) (hg : PG X.nox tg gt) (hb : PSs X.nox rest (tS X.K R pn g))
    (hs : ∀ x, foldedSetIterable iter X.nox.env x = pure x := by intro _; rfl) : PS X.nox (.For tg iter rest [] pos) (tS X.K R pn (gFor src t g)) := psi (ps_for PassesOwn.never hc hi hg hb hs) fun _ _ _ => s_for ht hp
theorem ss_while {n : Nat} {f : XF S Bool} (hc : PT X.nox c (tXT X.K R f)) (hb : PSs X.nox rest (tS X.K R pn g)) : PS X.nox (.While c rest [] pos) (tS X.K R pn (gWhile n f g)) := psi (ps_while PassesOwn.never hc hb) fun _ _ _ => s_while
theorem ss_par2 {i j : Nat} {x y : Str} {a b : Expr} {f : XF S (List (MO S))} {px py pt : Pos} {kt k2 pt2} (hpi : i ∉ pn) (hpj : j ∉ pn) (hc : X.calm = true) (hN : X.N.Nodup) (hi : X.N[i]? = some x) (hj : X.N[j]? = some y) (hij : i ≠ j)
    (hx : X.env.scope.names.lookup x = some .local) (hy : X.env.scope.names.lookup y = some .local) (ha : PA X [a, b] (tOA X.K R f))
    (hw : swappedStores [.Tuple [.Name x px, .Name y py] kt pt] (.Tuple [a, b] k2 pt2) X.env = pure (some [x, y]))
    (hs : swapsWithSole [.Tuple [.Name x px, .Name y py] kt pt] (.Tuple [a, b] k2 pt2) pos.line X.env = pure false := by rfl) :
    PS X (.Assign [.Tuple [.Name x px, .Name y py] kt pt] (.Tuple [a, b] k2 pt2) pos) (tS X.K R pn (gPar2 i j f)) := psi (ps_par hc hN hi hj hij hx hy ha hw hs) fun _ _ _ => s_par2 hpi hpj
end
section
variable {S : Type} {K : PySem.W.Frag} {R : StI S} {pn : List Nat} {Dn : Ends} {σ : L2.St} {H : Hp}
def setM (ds : DS S) : List Nat → List (MO S) → DS S
  | i :: is, m :: ms => setM (ds.set i (some m)) is ms
  | _, _ => ds
def gParN (is : List Nat) (f : XF S (List (MO S))) : SF S := fun ds => (f ds).bind fun p => if p.1.length = is.length ∧ p.1.length ≤ sizeLine then some (.nx (setM p.2 is p.1)) else none
theorem OwnAll.length {G H : Hp} : ∀ {vs : List V} {ms : List (MO S)} {fr : Addr → Prop}, OwnAll K R G H vs ms fr → vs.length = ms.length
  | _, _, _, .nil => rfl
  | _, _, _, .cons _ o _ => by rw [List.length_cons, List.length_cons, OwnAll.length o]
theorem OwnAll.mono {G H H' : Hp} : ∀ {vs : List V} {ms : List (MO S)} {fr : Addr → Prop}, OwnAll K R G H vs ms fr → (∀ a, fr a → H' a = H a) → OwnAll K R G H' vs ms fr
  | _, _, _, .nil, _ => .nil
  | _, _, _, .cons o1 o2 d, h => .cons (o1.mono (Same.refl _) fun a ha => h a (.inl ha)) (OwnAll.mono o2 fun a ha => h a (.inr ha)) d
theorem OwnAll.trk {G H : Hp} : ∀ {vs : List V} {ms : List (MO S)} {fr : Addr → Prop}, OwnAll K R G H vs ms fr → ∀ a, fr a → H a ≠ none
  | _, _, _, .nil, _, h => h.elim
  | _, _, _, .cons o1 o2 _, a, h => h.elim (o1.trk a) (OwnAll.trk o2 a)
variable {X : Cx} {es ts : List Expr} {pos tpos : Pos} {k1 k2 : Nat} {pt2 : Pos}
end
section
variable {S : Type} {X : Cx} {R : StI S} {K : PySem.W.Frag} {e : Expr}
def oMove (i : Nat) : XF S (MO S) := fun ds => match ds[i]? with
  | some (some (.lst xs)) => some (.lst xs, ds.set i none)
  | some (some (.st s)) => some (.st s, ds.set i none)
  | some (some (.dic kvs)) => some (.dic kvs, ds.set i none)
  | _ => none
theorem RS.moved {ds : DS S} {σ : L2.St} {G H : Hp} {F : Nat → Addr → Prop} {i : Nat} {m : MO S} (r : RS K R ds σ G H F) (e : ds[i]? = some (some m)) : RS K R (ds.set i none) σ G H (setF F i fun _ => False) := by
  have hi : i < ds.length := (List.getElem?_eq_some_iff.mp e).1
  refine ⟨r.sub, by rw [List.length_set]; exact r.len, fun j m' q => ?_, fun j q a ha => ?_, fun j l a ha hb => ?_, fun j a ha => ?_⟩
  · by_cases hj : i = j
    · subst hj
      rw [List.getElem?_set_self hi] at q
      cases q
    · rw [List.getElem?_set_ne hj] at q
      obtain ⟨v, h1, h2⟩ := r.own j m' q
      exact ⟨v, h1, h2.iff fun a => by unfold setF; rw [if_neg (Ne.symm hj)]⟩
  · unfold setF at ha
    by_cases hj : j = i
    · rw [if_pos hj] at ha; exact ha
    · rw [if_neg hj] at ha
      refine r.emp j (fun m' z => q m' ?_) a ha
      rw [List.getElem?_set_ne (Ne.symm hj)]
      exact z
  · unfold setF at ha hb
    by_cases hj : j = i
    · rw [if_pos hj] at ha; exact ha.elim
    · by_cases hl : l = i
      · rw [if_pos hl] at hb; exact hb.elim
      · rw [if_neg hj] at ha
        rw [if_neg hl] at hb
        exact r.dj j l a ha hb
  · unfold setF at ha
    by_cases hj : j = i
    · rw [if_pos hj] at ha; exact ha.elim
    · rw [if_neg hj] at ha; exact r.dis j a ha
theorem o_move {i : Nat} {σ : L2.St} {H : Hp} {Q : VK} (h : tO K R (oMove i) σ H Q) : tVar i σ H Q := by
  obtain ⟨G, F, ds, m, ds', r, e, k⟩ := h
  have key : ∃ m', ds[i]? = some (some m') ∧ m = m' ∧ ds' = ds.set i none := by
    unfold oMove at e
    split at e
    · cases e; exact ⟨_, by assumption, rfl, rfl⟩
    · cases e; exact ⟨_, by assumption, rfl, rfl⟩
    · cases e; exact ⟨_, by assumption, rfl, rfl⟩
    · cases e
  obtain ⟨m', e1, rfl, rfl⟩ := key
  obtain ⟨v, hv, o⟩ := r.own i m e1
  refine ⟨v, hv, k v G H _ (F i) (r.moved e1) ⟨fun _ _ _ z => .inl z, Same.refl _, r.sub, fun _ z => .inl z, fun b hb => ?_⟩ o (fun a ha ⟨j, z⟩ => ?_) (r.dis i)⟩
  · rcases hb with ⟨j, z⟩ | z
    · unfold setF at z
      by_cases hj : j = i
      · rw [if_pos hj] at z; exact z.elim
      · rw [if_neg hj] at z; exact .inl ⟨j, z⟩
    · exact .inl ⟨i, z⟩
  · unfold setF at z
    by_cases hj : j = i
    · rw [if_pos hj] at z; exact z
    · rw [if_neg hj] at z; exact hj (r.dj j i a z ha)
theorem eo_move {i : Nat} (h : PE X e (tVar i)) : PE X e (tO X.K R (oMove (S := S) i)) := PE.imp h fun _ _ _ => o_move
end
section
variable {S : Type} {X : Cx} {R : StI S} {pn : List Nat} {elt tg iter : Expr} {ifs : List Expr} {scope : Scope} {own : List (Str × Nat)} {pos spos py : Pos} {t : D → Option (List (Nat × D))} {gt : TG} {y : Str} {i : Nat}
theorem ef_lc {W : Bool} {src : DS S → Option (List D)} {h : DS S → Option Bool} {g : DS S → Option D} (ht : TGD W X.K gt t) (ho : ∀ d as, t d = some as → ∀ p ∈ as, p.1 ∈ own.map (·.2)) (hc : X.calm = true) (hN : X.N.Nodup) (hi : PI X tg iter (tI W X.K src)) (ok : BlkOk X.N X.env.scope scope own)
    (hg : ∀ (s : Shared) (H : Hp) (C : Addr) (cl : List (Str × Addr)) (fp : List Addr), PG (X.blk s H scope (compEnvC scope cl C X.env) fp) tg gt) (hh : ∀ (s : Shared) (H : Hp) (C : Addr) (cl : List (Str × Addr)) (fp : List Addr), PTs (X.blk s H scope (compEnvC scope cl C X.env) fp) ifs (tPT X.K h))
    (he : ∀ (s : Shared) (H : Hp) (C : Addr) (cl : List (Str × Addr)) (fp : List Addr), PE (X.blk s H scope (compEnvC scope cl C X.env) fp) elt (tP X.K g)) (hs : ∀ x, foldedSetIterable iter X.env x = pure x := by intro _; rfl) :
    PE X (.ListComp elt [⟨tg, iter, ifs, 0⟩] scope pos) (tF X.K (gLc src (own.map (·.2)) t h g)) := PE.imp (pe_lc hc hN hi ok hg hh he hs) fun _ _ _ => p_lc ht ho
theorem eo_lc {W : Bool} {src : XF S (List D)} {h : XF S Bool} {g : XF S D} (ht : TGD W X.K gt t) (ho : ∀ d as, t d = some as → ∀ p ∈ as, p.1 ∈ own.map (·.2)) (hc : X.calm = true) (hN : X.N.Nodup) (hi : PI X tg iter (tXI W X.K R src)) (ok : BlkOk X.N X.env.scope scope own)
    (hg : ∀ (s : Shared) (H : Hp) (C : Addr) (cl : List (Str × Addr)) (fp : List Addr), PG (X.blk s H scope (compEnvC scope cl C X.env) fp) tg gt) (hh : ∀ (s : Shared) (H : Hp) (C : Addr) (cl : List (Str × Addr)) (fp : List Addr), PTs (X.blk s H scope (compEnvC scope cl C X.env) fp) ifs (tXT X.K R h))
    (he : ∀ (s : Shared) (H : Hp) (C : Addr) (cl : List (Str × Addr)) (fp : List Addr), PE (X.blk s H scope (compEnvC scope cl C X.env) fp) elt (tX X.K R g)) (hs : ∀ x, foldedSetIterable iter X.env x = pure x := by intro _; rfl) :
    PE X (.ListComp elt [⟨tg, iter, ifs, 0⟩] scope pos) (tO X.K R (xLc src (own.map (·.2)) t h g)) := PE.imp (pe_lc hc hN hi ok hg hh he hs) fun _ _ _ => x_lc ht ho
end
end
section
variable {TBL : TabL}
section
variable {S : Type} {X : Cx} {R : StI S} {tg e a b : Expr} {p pos : Pos}
def xiP (src : DS S → Option (List D)) : XF S (List D) := fun ds => (src (hideDS ds)).map fun xs => (xs, ds)
theorem xi_P {W : Bool} {src : DS S → Option (List D)} (h : PI X tg e (tI W X.K src)) : PI X tg e (tXI W X.K R (xiP src)) := PI.imp h fun σ H J ⟨G, F, ds, xs, ds', r, e, k⟩ => by
  unfold xiP at e
  cases eg : src (hideDS ds) with
  | none => rw [eg] at e; cases e
  | some ys =>
    rw [eg] at e
    cases e
    exact ⟨G, hideDS ds, _, r.sub, r.view, eg, fun I G' H' gr it => k I G' H' F (r.grow gr) gr.step it⟩
def xSrc (f : XF S D) : XF S (List D) := xb f fun x => xlift (srcD x)
theorem xi_any {f : XF S D} (h : PE X e (tX X.K R f)) : PI X tg e (tXI false X.K R (xSrc f)) := PI.imp (PI.or (pi_list h) (PI.or (pi_tup h) (pi_str h))) fun σ H J ⟨G, F, ds, xs, ds', r, e, k⟩ => by
  obtain ⟨d, ds1, ea, e⟩ := xb_some e
  obtain ⟨eg, e9⟩ := xlift_some e
  subst e9
  cases d with
  | list ys =>
    cases eg
    refine .inl ⟨G, F, ds, _, _, r, ea, fun v G1 H1 F1 r1 s1 d1 => ?_⟩
    cases d1 with
    | lst q z rr => exact ⟨_, rfl, ⟨_, SqL.of (r1.sub _ _ q)⟩, k _ G1 H1 F1 r1 s1 (itd_list q z rr)⟩
  | tuple ys =>
    cases eg
    refine .inr (.inl ⟨G, F, ds, _, _, r, ea, fun v G1 H1 F1 r1 s1 d1 => ?_⟩)
    cases d1 with
    | tup q z rr => exact ⟨_, rfl, ⟨_, sqt_mono r1.sub q.sq⟩, k _ G1 H1 F1 r1 s1 (itd_tup q.sq z rr)⟩
  | str x =>
    cases eg
    refine .inr (.inr ⟨G, F, ds, _, _, r, ea, fun v G1 H1 F1 r1 s1 d1 => ?_⟩)
    cases d1 with
    | str _ z o => exact ⟨_, rfl, k _ G1 H1 F1 r1 s1 (itd_str z o)⟩
  | _ => cases eg
def xArgs (f : XF S (List D)) (g : List D → Option (List D)) : XF S (List D) := xb f fun x => xlift (g x)
theorem xi_r1 {f : XF S (List D)} (hg : Gl X "range") (hm : X.mg "range" = none) (ha : PA X [a] (tXA X.K R f)) (hs : starEach [a] X.env = [(false, eval a X.env)] := by rfl) : PI X tg (.Call (.Name "range" p) [a] [] pos) (tXI false X.K R (xArgs f rng1)) :=
  PI.imp (pi_range1 hg hm ha hs) fun σ H J ⟨G, F, ds, xs, ds', r, e, k⟩ => by
    obtain ⟨as, ds1, ea, e⟩ := xb_some e
    obtain ⟨eg, e9⟩ := xlift_some e
    subst e9
    match as, eg with
    | [.int j], eg =>
      simp only [rng1] at eg
      split at eg
      · rename_i hz
        cases eg
        refine ⟨G, F, ds, _, _, r, ea, fun vs G1 H1 F1 r1 s1 d1 => ?_⟩
        cases d1 with
        | cons d1 rr =>
          cases rr
          cases d1
          have hl : (sizeLine : Int) < 2 ^ 62 := by decide
          exact ⟨j, rfl, hz.2, by omega, k _ G1 H1 F1 r1 s1 (itd_rng (by omega))⟩
      · cases eg
end
section
variable {S : Type} {X : Cx} {R : StI S} {e : Expr} {pos p2 : Pos} {lo hi : Option Expr}
def xNoPart : XF S (Option Int) := fun ds => some (none, ds)
def intD1 : D → Option (Option Int)
  | .int i => some (some i)
  | _ => none
def xPart (f : XF S D) : XF S (Option Int) := xb f fun x => xlift (intD1 x)
def xSl3 {α : Type} (fa : XF S D) (fl fh : XF S (Option Int)) (g : D → Option Int → Option Int → Option α) : XF S α := xb fa fun x => xb fl fun l => xb fh fun h => xlift (g x l h)
theorem cutS_le (z : Str) (lo hi : Option Int) : (cutS z lo hi).length ≤ z.length := by
  show ((z.cps.toList.drop _).take _).toArray.size ≤ z.cps.size
  simp only [List.size_toArray, List.length_take, List.length_drop, Array.length_toList]
  omega
def slT1 : D → Option Int → Option Int → Option D
  | .tuple xs, lo, hi => some (.tuple (cutD xs lo hi))
  | .str x, lo, hi => if PyData.strOk (cutS x lo hi) = true then some (.str (cutS x lo hi)) else none
  | _, _, _ => none
theorem sl_ts2 : SlR X (fun x lo hi H Q => rSlF X.K x lo hi H Q ∨ rSlS x lo hi H Q) := SlR.or sl_tupF sl_str
theorem cutD_whole {xs : List D} {lo hi : Option Int} (h : HT.sIx xs.length 0 lo = 0 ∧ HT.sIx xs.length xs.length hi = xs.length) : cutD xs lo hi = xs := by
  unfold cutD
  rw [h.1, h.2, List.drop_zero, Nat.sub_zero, List.take_length]
theorem slT_ok {K : PySem.W.Frag} {v : V} {x d : D} {l h : Option Int} {G H : Hp} {Q : VK} (s : Sub G H) (dv : Den K G v x) (e : slT1 x l h = some d) (k : ∀ v G' H', Gr G H G' H' → Den K G' v d → Q v H') : rSlF K v l h H Q ∨ rSlS v l h H Q := by
  cases dv with
  | tup q z r =>
    rename_i a vs xs
    cases e
    refine .inl ⟨a, vs, rfl, sqt_mono s q.sq, fun hw => ?_, fun hw p o dn hp => ?_⟩
    · rw [r.length] at hw
      exact k _ G H (.refl s) (by rw [cutD_whole hw]; exact .tup q z r)
    · have hg := s.free hp
      exact k _ (upd G p (.frz o (.tup (cutV vs l h)))) _ (.upd s hp) (.tup (PqT.new dn) (Nat.le_trans (cutV_le _ _ _) z) ((den_cut r l h).mono fun b u e => by rw [upd_ne (ne_of_none e hg)]; exact e))
  | str y z o =>
    unfold slT1 at e
    dsimp only at e
    split at e
    · rename_i ho
      cases e
      exact .inr ⟨y, rfl, z, k _ G H (.refl s) (.str _ (Nat.le_trans (cutS_le _ _ _) z) ho)⟩
    · cases e
  | _ => cases e
theorem DenAll.rev {K : PySem.W.Frag} {G : Hp} : ∀ {vs : List V} {ds : List D}, DenAll K G vs ds → DenAll K G vs.reverse ds.reverse
  | _, _, .nil => .nil
  | _, _, .cons d r => by rw [List.reverse_cons, List.reverse_cons]; exact (DenAll.rev r).append (.cons d .nil)
end
section
variable {S : Type} {X : Cx} {R : StI S} {o e : Expr} {apos pos : Pos}
def strOkAll (ys : List Str) : Bool := ys.all fun y => decide (y.length ≤ sizeLine) && PyData.strOk y
def splitD : D → D → Option (List D)
  | .str a, .str b => if (b.length == 0) = false ∧ a.length + 2 ≤ sizeLine ∧ (Txt.split a b).length ≤ sizeLine ∧ strOkAll (Txt.split a b) = true then some ((Txt.split a b).map .str) else none
  | _, _ => none
def gSplit (ga gb : DS S → Option D) : DS S → Option (List D) := fun ds => (ga ds).bind fun x => (gb ds).bind fun y => splitD x y
def joinD : D → D → Option D
  | .str a, .list ys => (strsOf ys).bind fun zs => if (zs.map (·.length)).sum + zs.length * a.length ≤ 16777216 ∧ (Txt.join a zs).length ≤ sizeLine ∧ PyData.strOk (Txt.join a zs) = true then some (.str (Txt.join a zs)) else none
  | _, _ => none
theorem join_ok {K : PySem.W.Frag} {v u : V} {x y d : D} {G H : Hp} {Q : VK} (s : Sub G H) (dv : Den K G v x) (du : Den K G u y) (e : joinD x y = some d) (k : ∀ v, Den K G v d → Q v H) :
    (∃ a, v = .str a) ∧ ∃ a p, ∃ ys : List Str, v = .str a ∧ [u] = [.ref p] ∧ (SqL K H p (ys.map V.str) ∨ SqT K H p (ys.map V.str)) ∧ (ys.map (·.length)).sum + ys.length * a.length ≤ 16777216 ∧ Q (.str (Txt.join a ys)) H := by
  match x, y, e with
  | .str a, .list ys, e =>
    unfold joinD at e
    dsimp only at e
    cases es : strsOf ys with
    | none => rw [es] at e; cases e
    | some zs =>
      rw [es] at e
      simp only [Option.bind_some] at e
      split at e
      · rename_i hz
        cases e
        cases dv
        cases du with
        | lst q z r =>
          have := strs_den r es
          subst this
          exact ⟨⟨_, rfl⟩, a, _, zs, rfl, rfl, .inl (SqL.of (s _ _ q)), hz.1, k _ (.str _ hz.2.1 hz.2.2)⟩
      · cases e
def gOp2 (g : D → D → Option D) (ga gb : DS S → Option D) : DS S → Option D := fun ds => (ga ds).bind fun x => (gb ds).bind fun y => g x y
theorem ex_join {fa fb : XF S D} (ho : PE X o (tX X.K R fa)) (he : PE X e (tX X.K R fb)) (hs : starEach [e] X.env = [(false, eval e X.env)] := by rfl) (hbase : attributeBase o "join" X.env (eval o X.env) = eval o X.env := by rfl) (hline : (apos.endLine == pos.line) = true := by rfl) :
    PE X (.Call (.Attribute o "join" apos) [e] [] pos) (tX X.K R (xOp joinD fa fb)) := PE.imp (pe_join ho he hs hbase hline) fun σ H Q ⟨G, F, ds, d, ds', r, e, k⟩ => by
  obtain ⟨x, ds1, ea, e⟩ := xb_some e
  obtain ⟨y, ds2, eb, e⟩ := xb_some e
  obtain ⟨eg, e9⟩ := xlift_some e
  subst e9
  refine ⟨G, F, ds, x, ds1, r, ea, fun v G1 H1 F1 r1 s1 d1 => ?_⟩
  have isS : ∃ a, v = .str a := by
    match x, y, eg with
    | .str a, .list ys, eg => cases d1; exact ⟨_, rfl⟩
  exact ⟨isS, G1, F1, ds1, y, _, r1, eb, fun u G2 H2 F2 r2 s2 d2 => (join_ok r2.sub (d1.mono s2.keep) d2 eg fun v3 d3 => k v3 G2 H2 F2 r2 (s1.trans s2) d3).2⟩
end
end
section
variable {TBL : TabL}
section
variable {S : Type} {X : Cx} {R : StI S} {pn : List Nat} {o e i : Expr} {es : List Expr} {apos cpos pos tpos : Pos}
theorem ty_own {K : PySem.W.Frag} : ∀ p vs (H : Hp), H p = some (.lst vs) → tyV K "list" (.ref p) H := fun p vs H h => .inl ⟨rfl, vs, SqL.of h⟩
theorem ex_app {j : Nat} {f : XF S (List D)} (ho : PE X o (tVar j)) (ha : PA X (e :: es) (tXA X.K R f)) (hbase : attributeBase o "append" X.env (eval o X.env) = eval o X.env := by rfl)
    (hfew : ((backTo cpos (starEach (e :: es) X.env)).all (fun x => !x.1) && (backToKw cpos (keywordEach [] X.env)).all (fun x => x.1.isSome)
      && decide ((e :: es).length + ([] : List Keyword).length + (if ([] : List Keyword).isEmpty then 0 else 1) < 30)) = true := by rfl)
    (hline : (apos.endLine == cpos.line) = true := by rfl) (hs : starEach (e :: es) X.env = (false, eval e X.env) :: starEach es X.env := by rfl) (hplain : (backTo cpos (starEach es X.env)).any (·.1) = false := by rfl) :
    PE X (.Call (.Attribute o "append" apos) (e :: es) [] cpos) (tX X.K R (xMt j appD f)) := PE.imp (pe_bm PySem.F.plainAttrs_list PySem.F.slot_list_append PySem.F.type_list_append mt_append ho ha hbase hfew hline hs hplain) fun _ _ _ h => x_mt d_app ty_own h
end
end
section
variable {TBL : TabL}
inductive St2 where
  | draw (cells left : List Int) (at_ : Int)
  | dic (kvs : List (Int × Int))
  | rows (xss : List (List (Option Int)))
  | great (left cells : List Int) (run at_ : Int)
def oiV : Option Int → V
  | none => .non
  | some i => .int i
def RowsAt (H : Hp) (ps : List Addr) (xss : List (List (Option Int))) : Prop :=
  ps.length = xss.length ∧ ∀ (l : Nat) q r, ps[l]? = some q → xss[l]? = some r → H q = some (.lst (r.map oiV)) ∧ r.length ≤ sizeLine
theorem RowsAt.mono {H H' : Hp} {ps : List Addr} {xss : List (List (Option Int))} (h : RowsAt H ps xss) (k : ∀ q ∈ ps, H' q = H q) : RowsAt H' ps xss :=
  ⟨h.1, fun l q r h1 h2 => ⟨by rw [k q (List.mem_of_getElem? h1)]; exact (h.2 l q r h1 h2).1, (h.2 l q r h1 h2).2⟩⟩
theorem RowsAt.trk {H : Hp} {ps : List Addr} {xss : List (List (Option Int))} (h : RowsAt H ps xss) {q : Addr} (hq : q ∈ ps) : H q ≠ none := by
  obtain ⟨l, hl, e⟩ := List.mem_iff_getElem.mp hq
  have h2 : l < xss.length := by rw [← h.1]; exact hl
  rw [(h.2 l q xss[l] (by rw [List.getElem?_eq_getElem hl, e]) (List.getElem?_eq_getElem h2)).1]
  simp
theorem RowsAt.ntb {H : Hp} {ps : List Addr} {xss : List (List (Option Int))} (h : RowsAt H ps xss) {q : Addr} (hq : q ∈ ps) (o : HO) (e2 : H q = some o) : NT o := by
  obtain ⟨l, hl, e⟩ := List.mem_iff_getElem.mp hq
  have h2 : l < xss.length := by rw [← h.1]; exact hl
  rw [(h.2 l q xss[l] (by rw [List.getElem?_eq_getElem hl, e]) (List.getElem?_eq_getElem h2)).1] at e2
  cases e2
  exact nt_lst
def drawKV (pc pl : Addr) (k : Int) : List (Key × V) := [(.inr "cells", .ref pc), (.inr "left", .ref pl), (.inr "at", .int k)]
def dicKV (kvs : List (Int × Int)) : List (Key × V) := kvs.map fun p => (.inl p.1, .int p.2)
def greatKV (pl pc : Addr) (n k : Int) : List (Key × V) := [(.inr "left", .ref pl), (.inr "cells", .ref pc), (.inr "run", .int n), (.inr "at", .int k)]
def rel2 (H : Hp) (v : V) : St2 → (Addr → Prop) → Prop
  | .draw cells left k, fp => ∃ p pc pl, v = .ref p ∧ H p = some (.dK (drawKV pc pl k)) ∧ H pc = some (.lst (cells.map V.int)) ∧ H pl = some (.lst (left.map V.int)) ∧ p ≠ pc ∧ p ≠ pl ∧ pc ≠ pl ∧ ∀ a, fp a ↔ a = p ∨ a = pc ∨ a = pl
  | .dic kvs, fp => ∃ p, v = .ref p ∧ H p = some (.dK (dicKV kvs)) ∧ ∀ a, fp a ↔ a = p
  | .rows xss, fp => ∃ p ps, v = .ref p ∧ H p = some (.lst (ps.map V.ref)) ∧ ps.length ≤ sizeLine ∧ RowsAt H ps xss ∧ (p :: ps).Nodup ∧ ∀ a, fp a ↔ a = p ∨ a ∈ ps
  | .great left cells n k, fp => ∃ p pc pl, v = .ref p ∧ H p = some (.dK (greatKV pl pc n k)) ∧ H pc = some (.lst (cells.map V.int)) ∧ H pl = some (.lst (left.map V.int)) ∧ p ≠ pc ∧ p ≠ pl ∧ pc ≠ pl ∧ ∀ a, fp a ↔ a = p ∨ a = pc ∨ a = pl
def R2i : StI St2 where
  rel := fun _ => rel2
  frame := fun {G G' H H' v s fp} h _ k => by
    cases s with
    | draw cells left n =>
      obtain ⟨p, pc, pl, rfl, h1, h2, h3, n1, n2, n3, hf⟩ := h
      exact ⟨p, pc, pl, rfl, by rw [k p ((hf p).mpr (.inl rfl))]; exact h1, by rw [k pc ((hf pc).mpr (.inr (.inl rfl)))]; exact h2, by rw [k pl ((hf pl).mpr (.inr (.inr rfl)))]; exact h3, n1, n2, n3, hf⟩
    | dic kvs =>
      obtain ⟨p, rfl, h1, hf⟩ := h
      exact ⟨p, rfl, by rw [k p ((hf p).mpr rfl)]; exact h1, hf⟩
    | rows xss =>
      obtain ⟨p, ps, rfl, h1, z, h2, n, hf⟩ := h
      exact ⟨p, ps, rfl, by rw [k p ((hf p).mpr (.inl rfl))]; exact h1, z, h2.mono fun q hq => k q ((hf q).mpr (.inr hq)), n, hf⟩
    | great left cells m n =>
      obtain ⟨p, pc, pl, rfl, h1, h2, h3, n1, n2, n3, hf⟩ := h
      exact ⟨p, pc, pl, rfl, by rw [k p ((hf p).mpr (.inl rfl))]; exact h1, by rw [k pc ((hf pc).mpr (.inr (.inl rfl)))]; exact h2, by rw [k pl ((hf pl).mpr (.inr (.inr rfl)))]; exact h3, n1, n2, n3, hf⟩
  trk := fun {G H v s fp} h a ha => by
    cases s with
    | draw cells left n =>
      obtain ⟨p, pc, pl, rfl, h1, h2, h3, n1, n2, n3, hf⟩ := h
      rcases (hf a).mp ha with z | z | z
      · rw [z, h1]; simp
      · rw [z, h2]; simp
      · rw [z, h3]; simp
    | dic kvs =>
      obtain ⟨p, rfl, h1, hf⟩ := h
      rw [(hf a).mp ha, h1]; simp
    | rows xss =>
      obtain ⟨p, ps, rfl, h1, z, h2, n, hf⟩ := h
      rcases (hf a).mp ha with z | z
      · rw [z, h1]; simp
      · exact h2.trk z
    | great left cells m n =>
      obtain ⟨p, pc, pl, rfl, h1, h2, h3, n1, n2, n3, hf⟩ := h
      rcases (hf a).mp ha with z | z | z
      · rw [z, h1]; simp
      · rw [z, h2]; simp
      · rw [z, h3]; simp
  ntb := fun {G H v s fp} h a ha o e => by
    cases s with
    | draw cells left n =>
      obtain ⟨p, pc, pl, rfl, h1, h2, h3, n1, n2, n3, hf⟩ := h
      rcases (hf a).mp ha with z | z | z
      · rw [z, h1] at e; cases e; exact nt_dK
      · rw [z, h2] at e; cases e; exact nt_lst
      · rw [z, h3] at e; cases e; exact nt_lst
    | dic kvs =>
      obtain ⟨p, rfl, h1, hf⟩ := h
      rw [(hf a).mp ha, h1] at e; cases e; exact nt_dK
    | rows xss =>
      obtain ⟨p, ps, rfl, h1, z, h2, n, hf⟩ := h
      rcases (hf a).mp ha with z | z
      · rw [z, h1] at e; cases e; exact nt_lst
      · exact h2.ntb z o e
    | great left cells m n =>
      obtain ⟨p, pc, pl, rfl, h1, h2, h3, n1, n2, n3, hf⟩ := h
      rcases (hf a).mp ha with z | z | z
      · rw [z, h1] at e; cases e; exact nt_dK
      · rw [z, h2] at e; cases e; exact nt_lst
      · rw [z, h3] at e; cases e; exact nt_lst
abbrev DS2 := DS St2
section
variable {S : Type} {K : PySem.W.Frag} {R : StI S} {ds : DS S} {σ : L2.St} {G H : Hp} {F : Nat → Addr → Prop}
theorem RS.put (r : RS K R ds σ G H F) {i : Nat} {s s' : S} {v : V} {q : Addr} {o : HO} (e : ds[i]? = some (some (.st s))) (hv : σ[i]? = some (some v)) (hq : F i q) (rel : R.rel G (upd H q o) v s' (F i)) :
    RS K R (ds.set i (some (.st s'))) σ G (upd H q o) F ∧ Step G H (fun a => ∃ j, F j a) G (upd H q o) (fun a => ∃ j, F j a) := by
  have hi : i < ds.length := (List.getElem?_eq_some_iff.mp e).1
  have hg : G q = none := r.dis i q hq
  have sub : Sub G (upd H q o) := r.sub.write hg (r.ntb i q hq)
  refine ⟨⟨sub, by rw [List.length_set]; exact r.len, fun j m z => ?_, fun j z => ?_, r.dj, r.dis⟩, ⟨fun a ha u z => ?_, Same.refl _, sub, fun b hb => .inl hb, fun b hb => .inl hb⟩⟩
  · by_cases hj : i = j
    · subst hj
      rw [List.getElem?_set_self hi] at z
      cases z
      exact ⟨v, hv, rel⟩
    · rw [List.getElem?_set_ne hj] at z
      obtain ⟨u, h1, h2⟩ := r.own j m z
      exact ⟨u, h1, h2.mono (Same.refl _) fun a ha => upd_ne fun y => hj (r.dj i j a (by rw [y]; exact hq) ha)⟩
  · by_cases hj : i = j
    · subst hj
      exact absurd (List.getElem?_set_self hi) (z _)
    · rw [List.getElem?_set_ne hj] at z
      exact r.emp j z
  · rw [upd_ne fun y => ha ⟨i, by rw [y]; exact hq⟩]; exact .inl z
end
section
variable {X : Cx} {pn : List Nat} {o e i e2 : Expr} {es : List Expr} {pos pos2 apos cpos : Pos} {j : Nat}
end
end
section
variable {TBL : TabL}
section
variable {X : Cx} {pn : List Nat} {o e i e2 k1 k2 k3 z0 : Expr} {es : List Expr} {pos pos2 apos cpos : Pos} {j : Nat}
theorem Step.add {G H : Hp} {P Z : Addr → Prop} {G' H' : Hp} (s : Step G H P G' H' P) (n : ∀ a, Z a → H a = none) : Step G H P G' H' (fun a => P a ∨ Z a) :=
  ⟨s.frame, s.keep, s.sub, s.new0, fun b hb => hb.elim (fun z => s.newf b z) fun z => .inr (n b z)⟩
theorem Step.write {G H : Hp} {P : Addr → Prop} {q : Addr} {o : HO} (s : Sub G H) (hg : G q = none) (hp : P q) (n : ∀ u, H q = some u → NT u) : Step G H P G (upd H q o) P :=
  ⟨fun a ha u e => by rw [upd_ne fun y => ha (by rw [y]; exact hp)]; exact .inl e, Same.refl _, s.write hg n, fun b hb => .inl hb, fun b hb => .inl hb⟩
end
end
section
variable {TBL : TabL}
section
variable {prog : Program} {w : World} {κ : Type} [DecidableEq κ] {kn : KeyKind prog w κ} {A : Around} {E : Value → Shared → Prop} {s : Shared} {vw dd : Addr} {tab : List (κ × Value)} {ep : Nat}
end
section
variable {X : Cx} {e : Expr} {te : TE} {p apos cpos pos : Pos}
end
end
section
variable {TBL : TabL}
section
variable {S : Type} {X : Cx} {R : StI S} {e : Expr} {pos p2 : Pos} {lo hi : Option Expr}
def slA : D → Option Int → Option Int → Option D
  | .list xs, lo, hi => some (.list (cutD xs lo hi))
  | .tuple xs, lo, hi => some (.tuple (cutD xs lo hi))
  | .str x, lo, hi => if PyData.strOk (cutS x lo hi) = true then some (.str (cutS x lo hi)) else none
  | _, _, _ => none
theorem slA_ok {K : PySem.W.Frag} {v : V} {x d : D} {l h : Option Int} {G H : Hp} {Q : VK} (s : Sub G H) (dv : Den K G v x) (e : slA x l h = some d) (k : ∀ v G' H', Gr G H G' H' → Den K G' v d → Q v H') : rSlL K v l h H Q ∨ (rSlF K v l h H Q ∨ rSlS v l h H Q) := by
  cases x with
  | list ys =>
    cases e
    cases dv with
    | lst q z r =>
      refine .inl ⟨_, _, rfl, SqL.of (s _ _ q), fun p hp => ?_⟩
      have hg := s.free hp
      exact k _ (upd G p _) _ (.upd s hp) (.lst upd_same (Nat.le_trans (cutV_le _ _ _) z) ((den_cut r l h).mono fun b u e => by rw [upd_ne (ne_of_none e hg)]; exact e))
  | tuple ys => exact .inr (slT_ok s dv e k)
  | str y => exact .inr (slT_ok s dv e k)
  | _ => cases e
theorem sl_any : SlR X (fun x lo hi H Q => rSlL X.K x lo hi H Q ∨ (rSlF X.K x lo hi H Q ∨ rSlS x lo hi H Q)) := SlR.or sl_list sl_ts2
def gSlA (ga : DS S → Option D) (gl gh : DS S → Option (Option Int)) : DS S → Option D := fun ds => (ga ds).bind fun x => (gl ds).bind fun l => (gh ds).bind fun h => slA x l h
theorem ep_slA {ga : DS S → Option D} {gl gh : DS S → Option (Option Int)} (he : PE X e (tP X.K ga)) (hl : PO X lo (tPO X.K gl)) (hu : PO X hi (tPO X.K gh)) : PE X (.Subscript e (.Slice lo hi none p2) pos) (tP X.K (gSlA ga gl gh)) := PE.imp (pe_slice sl_any he hl hu) fun σ H Q ⟨G, ds, d, s, w, e, k⟩ => by
  unfold gSlA at e
  cases ea : ga ds with
  | none => rw [ea] at e; cases e
  | some x =>
    cases el : gl ds with
    | none => simp [ea, el] at e
    | some l =>
      cases eh : gh ds with
      | none => simp [ea, el, eh] at e
      | some h =>
        simp only [ea, el, eh, Option.bind_some] at e
        refine ⟨G, ds, x, s, w, ea, fun v G1 H1 g1 d1 => ?_⟩
        refine ⟨G1, ds, l, g1.sub, w.mono g1.keep, el, fun G2 H2 g2 => ?_⟩
        refine ⟨G2, ds, h, g2.sub, w.mono (g1.trans g2).keep, eh, fun G3 H3 g3 => ?_⟩
        exact slA_ok g3.sub (d1.mono (g2.trans g3).keep) e fun v G4 H4 g4 d4 => k v G4 H4 (((g1.trans g2).trans g3).trans g4) d4
def addA : D → D → Option D
  | .list xs, y => (addL (.list xs) y).map .list
  | x, y => addD x y
theorem o_addA : OpR X (binaryOp .Add) (fun x y H Q => rCat x y H Q ∨ rAddD X.K x y H Q) := OpR.or op_cat o_add
theorem d_addA {K : PySem.W.Frag} : R2D K (fun x y H Q => rCat x y H Q ∨ rAddD K x y H Q) addA := by
  intro x y dx dy d G H Q s d1 d2 e k
  cases dx with
  | list xs =>
    cases ea : addL (.list xs) dy with
    | none => simp [addA, ea] at e
    | some zs =>
      simp only [addA, ea, Option.map_some] at e
      cases e
      refine .inl (d_addL x y (.list xs) dy zs G H Q s d1 d2 ea fun p vs G' H' g h1 h2 h3 z dz => ?_)
      exact k (.ref p) (upd G' p (.lst vs)) H' (g.freeze h1 h2 h3) (.lst upd_same z (dz.mono fun b u e => by rw [upd_ne (ne_of_none e h1)]; exact e))
  | none => exact .inr (d_add x y _ dy d G H Q s d1 d2 e k)
  | bool _ => exact .inr (d_add x y _ dy d G H Q s d1 d2 e k)
  | int _ => exact .inr (d_add x y _ dy d G H Q s d1 d2 e k)
  | str _ => exact .inr (d_add x y _ dy d G H Q s d1 d2 e k)
  | tuple _ => exact .inr (d_add x y _ dy d G H Q s d1 d2 e k)
  | dict _ => exact .inr (d_add x y _ dy d G H Q s d1 d2 e k)
end
theorem notin_own {t : D → Option (List (Nat × D))} {own pn : List Nat} (h : ∀ d as, t d = some as → ∀ p ∈ as, p.1 ∈ own) (n : ∀ i ∈ own, i ∉ pn) : ∀ d as, t d = some as → ∀ p ∈ as, p.1 ∉ pn := fun d as e p hp => n _ (h d as e p hp)
theorem room_u {k n : Nat} {A : Around} (r : Room k A) (h : n ≤ 200) : A.units + n < cLine := by
  have := r.un
  omega
structure Cl (P : Program) (w : World) (K : PySem.W.Frag) (mg : Str → Option Value) (base : Heap) (k : Nat) (x : Str) (sp : Sp) : Prop where
  ex : ∃ (f : Addr) (fd : FuncData) (ps : List Str), FnG P w K mg base CX0 k f fd ps sp ∧ Binds K fd ps [] ∧ PySem.W.keepIn K (.ref f) = true ∧ mg x = some (.ref f)
section
variable {S : Type} {X : Cx} {R : StI S} {j k n : Nat} {x : Str} {p pos : Pos} {e : Expr} {es : List Expr}
theorem cp_call {F : List D → Option (MO S)} {gs : DS S → Option (List D)} (c : Cl X.prog X.w X.K X.mg X.base j x (spP X.K R n F)) (hk : j ≤ k) (hr : Room k X.A) (hgd : X.A.guards = some []) (hg : Gl X x) (ha : PA X (e :: es) (tPA X.K gs))
    (hdb : (x == ("__debug__" : Str)) = false := by decide) (he : starEach (e :: es) X.env = (false, eval e X.env) :: starEach es X.env := by rfl) (hpl : (backTo pos (starEach es X.env)).any (·.1) = false := by rfl) :
    PE X (.Call (.Name x p) (e :: es) [] pos) (tP X.K (gCallP n F gs)) := by
  obtain ⟨f, fd, ps, Fn, hb, hkp, hm⟩ := c.ex
  exact ep_call (Fn.up hk) hr hgd hg hm hkp hb ha hdb he hpl
theorem co_call {F : List D → Option (MO S)} {fs : XF S (List D)} (c : Cl X.prog X.w X.K X.mg X.base j x (spP X.K R n F)) (hk : j ≤ k) (hr : Room k X.A) (hgd : X.A.guards = some []) (hg : Gl X x) (ha : PA X (e :: es) (tXA X.K R fs))
    (hdb : (x == ("__debug__" : Str)) = false := by decide) (he : starEach (e :: es) X.env = (false, eval e X.env) :: starEach es X.env := by rfl) (hpl : (backTo pos (starEach es X.env)).any (·.1) = false := by rfl) :
    PE X (.Call (.Name x p) (e :: es) [] pos) (tO X.K R (oCallP n F fs)) := by
  obtain ⟨f, fd, ps, Fn, hb, hkp, hm⟩ := c.ex
  exact eo_call (Fn.up hk) hr hgd hg hm hkp hb ha hdb he hpl
end
end
section
variable {TBL : TabL}
section
variable {S : Type} {K : PySem.W.Frag} {R : StI S}
theorem xts_one {X : Cx} {c : Expr} {h : XF S Bool} (hc : PT X c (tXT X.K R h)) : PTs X [c] (tXT X.K R h) := pts_one hc
end
section
variable {S : Type} {X : Cx} {a b c : Expr} {ga gb gc : DS S → Option D} {pos : Pos}
theorem p_chain {K : PySem.W.Frag} {r r' : R2} {g g' : D → D → Option D} (hr : R2D K r g) (hr' : R2D K r' g') {σ : L2.St} {H : Hp} {Q : VK} (h : tP K (gChain g g' ga gb gc) σ H Q) : tChain r r' (tP K ga) (tP K gb) (tP K gc) σ H Q := by
  obtain ⟨G, ds, d, s, w, e, k⟩ := h
  unfold gChain at e
  cases ea : ga ds with
  | none => rw [ea] at e; cases e
  | some x =>
    cases eb : gb ds with
    | none => simp [ea, eb] at e
    | some y =>
      cases ez : g x y with
      | none => simp [ea, eb, ez] at e
      | some z =>
        simp only [ea, eb, ez, Option.bind_some] at e
        refine ⟨G, ds, x, s, w, ea, fun v G1 H1 g1 d1 => ?_⟩
        refine ⟨G1, ds, y, g1.sub, w.mono g1.keep, eb, fun u G2 H2 g2 d2 => ?_⟩
        refine hr v u x y z G2 H2 _ g2.sub (d1.mono g2.keep) d2 ez fun q G3 H3 g3 d3 => ?_
        cases z with
        | bool t =>
          cases d3
          refine ⟨t, rfl, ?_⟩
          cases t with
          | true =>
            cases ec : gc ds with
            | none => simp [ec] at e
            | some o =>
              simp only [ec, Option.bind_some] at e
              refine iteT ⟨G3, ds, o, g3.sub, w.mono ((g1.trans g2).trans g3).keep, ec, fun p G4 H4 g4 d4 => ?_⟩
              exact hr' u p y o d G4 H4 Q g4.sub (d2.mono (g3.trans g4).keep) d4 e fun r G5 H5 g5 d5 => k r G5 H5 ((((g1.trans g2).trans g3).trans g4).trans g5) d5
          | false =>
            have e' : d = .bool false := by simpa using e.symm
            subst e'
            exact iteF (k _ G3 H3 ((g1.trans g2).trans g3) (.bl false))
        | _ => cases e
theorem tp_chain {op op' : CmpOp} {r r' : R2} {g g' : D → D → Option D} (ho : OpR X (compareOp op) r) (hr : R2D X.K r g) (ho' : OpR X (compareOp op') r') (hr' : R2D X.K r' g') (ha : PE X a (tP X.K ga)) (hb : PE X b (tP X.K gb)) (hc : PE X c (tP X.K gc))
    (hm : lastMarks [op, op'] [b, c] = false := by with_unfolding_all rfl) : PT X (.Compare a [op, op'] [b, c] pos) (tPT X.K (gB (gChain g g' ga gb gc))) := PT.imp (pt_chain ho ho' ha hb hc hm) fun σ H Q ⟨G, ds, t, s, w, e, k⟩ => by
  unfold gB at e
  split at e
  · cases e
    rename_i t0 eg
    refine p_chain hr hr' ⟨G, ds, _, s, w, eg, fun v G' H' gr d => ?_⟩
    cases d
    exact ⟨_, rfl, k G' H' gr⟩
  · cases e
end
end
section
variable {TBL : TabL}
theorem ext_tup (l : Addr) (its : Array Value) (n : Nat) (b : Addr) (dd : Option Addr) (sl : Array (Option Value)) (more : Array Value) (n2 : Nat) (z0 : ¬ (!its.isEmpty && Builtin.List.listTooLong (its.size + more.size)) = true) (z1 : its.size ≤ sizeLine) (z2 : its.size + more.size ≤ sizeLine + 1) :
    Meets (Builtin.«list.extend» ⟨[.ref l, .ref b], []⟩) (fun _ R s => s.heap.get? l = some { cls := .type "list", dict := none, data := .seq its n, slots := #[] } ∧ s.heap.get? b = some { cls := .type "tuple", dict := dd, data := .seq more n2, slots := sl } ∧
      R (.ok (.ret Value.none)) { s with heap := s.heap.update l (Obj.mapSeq fun x => x ++ more), toks := s.toks }) :=
  .of_wp fun prog w A R s h => by
    obtain ⟨hp, g, d, tk, os⟩ := s
    obtain ⟨hl, hb, h⟩ := h
    have f1 := AutoSeq1.idx_int; have f2 := sub_tuple_tuple; have f3 := sub_list_list; have f4 := sub_tuple_list; have f5 := sub_list_tuple
    have hz' : (its ++ more).size ≤ sizeLine + 1 := by rw [Array.size_append]; exact z2
    wp_walk using (wpAny_updateSeq hl rfl (hz := z1) (_hz' := hz')), wpAny_loadPart' hl, wpAny_loadPart' hb
    exact ⟨_, rfl, h⟩
def rExtT (K : PySem.W.Frag) : V → List V → Hp → VK → Prop := fun x vs H Q => ∃ l b xs zs, x = .ref l ∧ vs = [.ref b] ∧ H l = some (.lst xs) ∧ SqT K H b zs ∧ xs.length + zs.length ≤ sizeLine ∧ Q .non (upd H l (.lst (xs ++ zs)))
theorem mt_extT {X : Cx} : MtM X "list.extend" (rExtT X.K) := by
  intro pins s σ H x vs v us Q I rx rv h
  obtain ⟨l, b, xs, zs, rfl, rfl, hH, hB, hz, q⟩ := h
  cases rx
  obtain ⟨u, rfl, ru⟩ := rv.one
  cases ru
  obtain ⟨z, its, n, r, hl, e⟩ := I.lstM hH
  obtain ⟨its2, r2, tp, z2⟩ := I.tuple hB
  obtain ⟨⟨cls, dd, data, sl⟩, ho, hc, n2, hd⟩ := id tp
  dsimp only at hc hd
  subst hc hd
  have l2 := r2.length
  have hsz : its.toArray.size + its2.toArray.size ≤ sizeLine := by rw [List.size_toArray, List.size_toArray]; omega
  have hlong : ¬ (!its.toArray.isEmpty && Builtin.List.listTooLong (its.toArray.size + its2.toArray.size)) = true := by
    rw [notLongL hsz, Bool.and_false]; exact Bool.false_ne_true
  refine call_meets F.slot_list_extend ⟨_, e, rfl⟩ F.entry_list_extend (F.args_list_extend_2 _ _) (ext_tup l its.toArray n b dd sl its2.toArray n2 hlong (by rw [List.size_toArray]; omega) (by omega)) ⟨e, ho, ?_⟩
  exact ⟨.non, _, I.lset (its' := its ++ its2) hH e (by simp) (r.append r2) (by rw [List.length_append]; omega), rfl, q⟩
def extTD (xs as : List D) : Option (D × List D) := match as with
  | [.tuple ys] => if xs.length + ys.length ≤ sizeLine then some (.none, xs ++ ys) else none
  | _ => none
theorem d_extT {K : PySem.W.Frag} : MtD K (rExtT K) extTD := by
  intro p vs xs as ws d ys G H Q s hp hg z dx dw e k
  match as, e with
  | [.tuple zs], e =>
    simp only [extTD] at e
    split at e
    · rename_i hz
      cases e
      match ws, dw with
      | _, .cons (.tup q z2 r) .nil =>
        exact ⟨p, _, vs, _, rfl, rfl, hp, sqt_mono s q.sq, by rw [dx.length, r.length]; exact hz, k _ (vs ++ _) (by rw [List.length_append, dx.length, r.length]; exact hz) (dx.append r) .non⟩
    · cases e
section
variable {S : Type} {X : Cx} {R : StI S} {o e : Expr} {es : List Expr} {apos cpos : Pos}
end
end
section
variable {TBL : TabL}
section
variable {S : Type} {X : Cx} {R : StI S} {pn : List Nat} {st : Stmt} {body : List Stmt} {h0 : ExceptHandler} {hs : List ExceptHandler} {pos : Pos}
def gUndef : SF S := fun _ => none
theorem ss_undef : PS X st (tS X.K R pn (gUndef (S := S))) := ⟨fun _ _ _ _ _ _ ⟨_, _, _, _, _, e, _⟩ => by cases e⟩
theorem ep_glob {x : Str} {v : V} {d : D} {u : Value} (hg : Gl X x) (hm : X.mg x = some u) (r : RelV v u) (dd : ∀ G, Den X.K G v d) (hd : (x == ("__debug__" : Str)) = false := by decide) : PE X (.Name x pos) (tP X.K (gC (S := S) d)) := ep_c (pe_glob hg hm r hd) dd
theorem ep_globI {x : Str} {i : Int} (hg : Gl X x) (hm : ∃ t, X.mg x = some (.int i t)) (hd : (x == ("__debug__" : Str)) = false := by decide) : PE X (.Name x pos) (tP X.K (gC (S := S) (.int i))) := by
  obtain ⟨t, hm⟩ := hm
  exact ep_glob hg hm (v := .int i) ⟨t, rfl⟩ (fun _ => .int i) hd
end
section
variable {X : Cx} {K : PySem.W.Frag}
end
section
variable {S : Type} {X : Cx} {K : PySem.W.Frag} {R : StI S} {o e : Expr} {es : List Expr} {apos cpos : Pos}
def extBD (xs as : List D) : Option (D × List D) := match as with
  | [.tuple ys] => if xs.length + ys.length ≤ sizeLine then some (.none, xs ++ ys) else none
  | as => extD xs as
def rExtB (K : PySem.W.Frag) : V → List V → Hp → VK → Prop := fun x vs H Q => rExtend x vs H Q ∨ rExtT K x vs H Q
theorem mt_extB : MtM X "list.extend" (rExtB X.K) := by
  intro pins s σ H x vs v us Q I rx rv h
  rcases h with h | h
  · exact mt_extend pins s σ H x vs v us Q I rx rv h
  · exact mt_extT pins s σ H x vs v us Q I rx rv h
theorem d_extB : MtD K (rExtB K) extBD := by
  intro p vs xs as ws d ys G H Q s hp hg z dx dw e k
  have go : extD xs as = some (d, ys) → rExtB K (.ref p) ws H Q := fun e => .inl (d_ext p vs xs as ws d ys G H Q s hp hg z dx dw e k)
  unfold extBD at e
  split at e
  · exact .inr (d_extT p vs xs _ ws d ys G H Q s hp hg z dx dw (by unfold extTD; exact e) k)
  · exact go e
theorem ex_extB {j : Nat} {f : XF S (List D)} (ho : PE X o (tVar j)) (ha : PA X (e :: es) (tXA X.K R f)) (hbase : attributeBase o "extend" X.env (eval o X.env) = eval o X.env := by rfl)
    (hfew : ((backTo cpos (starEach (e :: es) X.env)).all (fun x => !x.1) && (backToKw cpos (keywordEach [] X.env)).all (fun x => x.1.isSome)
      && decide ((e :: es).length + ([] : List Keyword).length + (if ([] : List Keyword).isEmpty then 0 else 1) < 30)) = true := by rfl)
    (hline : (apos.endLine == cpos.line) = true := by rfl) (hs : starEach (e :: es) X.env = (false, eval e X.env) :: starEach es X.env := by rfl) (hplain : (backTo cpos (starEach es X.env)).any (·.1) = false := by rfl) :
    PE X (.Call (.Attribute o "extend" apos) (e :: es) [] cpos) (tX X.K R (xMt j extBD f)) := PE.imp (pe_bm PySem.F.plainAttrs_list PySem.F.slot_list_extend PySem.F.type_list_extend mt_extB ho ha hbase hfew hline hs hplain) fun _ _ _ h => x_mt d_extB ty_own h
end
end
section
variable {TBL : TabL}
def vKey : Value → Option Key
  | .int i _ => some (.inl i)
  | .str x _ => some (.inr x)
  | _ => none
def SetM (P : Program) (w : World) (h : Heap) (a : Addr) (ks : List Key) : Prop :=
  ∃ o es ep t, h.get? a = some o ∧ o.ExactSet ∧ o.data = .set es ep t ∧ ElemsOf (mixKind P w) es.toList ∧ (es.toList.map fun e => vKey e.2).Perm (ks.map some) ∧ ks.Nodup ∧ es.size < scanBound ∧ t.fits es.size = true ∧ Ris t.place.toList ∧ (w.params.followText "set-order" = true ∨ t.led = true)
section
variable {P : Program} {w : World} {A : Around} {E : Value → Shared → Prop} {s : Shared} {a : Addr} {ks : List Key}
theorem SetM.keep {h h' : Heap} (R : SetM P w h a ks) (k : ∀ o, h.get? a = some o → h'.get? a = some o) : SetM P w h' a ks := by
  obtain ⟨o, es, ep, t, ho, r⟩ := R
  exact ⟨o, es, ep, t, k o ho, r⟩
end
end
section
variable {TBL : TabL}
section
variable {P : Program} {w : World} {A : Around} {E : Value → Shared → Prop} {s : Shared} {a : Addr}
set_option maxHeartbeats 8000000 in
set_option maxHeartbeats 8000000 in
end
end
section
variable {TBL : TabL}
def keyOf1 : D → Option Key
  | .int i => some (.inl i)
  | .str x => some (.inr x)
  | _ => none
section
variable {K : PySem.W.Frag} {G : Hp}
end
section
variable {X : Cx} {a : Expr} {ta : TE} {p p2 q pos : Pos}
end
section
variable {S : Type} {X : Cx} {a : Expr} {ga : DS S → Option D} {p p2 q pos : Pos}
end
end
section
variable {TBL : TabL}
section
variable {S : Type} {X : Cx} {a b : Expr} {ga gb : DS S → Option D} {p p2 q pos : Pos}
end
end
section
variable {TBL : TabL}
section
variable {S : Type} {X : Cx} {R : StI S}
end
end
section
variable {TBL : TabL}
section
variable {S : Type} {X : Cx} {R : StI S}
end
end
section
variable {TBL : TabL}
def keyStr (e : DictEntry) : Str := match e.key with
  | .str x _ => x
  | _ => ""
structure TopKeys (K : PySem.W.Frag) (w : World) (mg : Str → Option Value) (x : Str) (ks : List Str) : Prop where
  ex : ∃ d es n, mg x = some (.ref d) ∧ KDict K w d es n ∧ es.toList.map keyStr = ks ∧ ks.Nodup
section
variable {S : Type} {X : Cx} {p q pos : Pos} {x : Str}
end
end
section
variable {TBL : TabL}
def mapK (kvs more : List (Key × V)) : List (Key × V) := more.foldl (fun m p => putK m p.1 p.2) kvs
theorem mapK_len : ∀ (more kvs : List (Key × V)), (mapK kvs more).length ≤ kvs.length + more.length
  | [], kvs => by show kvs.length ≤ _; omega
  | p :: r, kvs => by
    have h1 := mapK_len r (putK kvs p.1 p.2)
    have h2 := length_putK kvs p.1 p.2
    show (mapK (putK kvs p.1 p.2) r).length ≤ _
    rw [List.length_cons]
    omega
inductive PV (K : PySem.W.Frag) (H : Hp) : List V → List (Key × V) → Prop
  | nil : PV K H [] []
  | cons {T : Addr} {k : Key} {v : V} {ys : List V} {kvs : List (Key × V)} : SqT K H T [kV k, v] → PV K H ys kvs → PV K H (.ref T :: ys) ((k, v) :: kvs)
theorem PV.len {K : PySem.W.Frag} {H : Hp} : ∀ {ys : List V} {kvs : List (Key × V)}, PV K H ys kvs → ys.length = kvs.length
  | _, _, .nil => rfl
  | _, _, .cons _ r => congrArg (· + 1) r.len
section
variable {X : Cx} {pins : List (Addr × Obj)} {σ : L2.St} {H : Hp} {s : Shared}
end
end
section
variable {TBL : TabL}
def lookD (kvs : List (Key × D)) (k : Key) : Option D := (kvs.find? fun p => decide (p.1 = k)).map (·.2)
def putD (kvs : List (Key × D)) (k : Key) (d : D) : List (Key × D) := if (kvs.any fun p => decide (p.1 = k)) = true then kvs.map (fun p => if p.1 = k then (p.1, d) else p) else kvs ++ [(k, d)]
def mapD (kvs more : List (Key × D)) : List (Key × D) := more.foldl (fun m p => putD m p.1 p.2) kvs
def pairsD : List D → Option (List (Key × D))
  | [] => some []
  | .tuple [x, y] :: r => (keyOf1 x).bind fun k => (pairsD r).map ((k, y) :: ·)
  | _ => none
def dictD : D → Option (List (Key × D))
  | .list ds => (pairsD ds).map (mapD [])
  | .tuple ds => (pairsD ds).map (mapD [])
  | _ => none
section
variable {K : PySem.W.Frag} {G : Hp}
theorem KVsD.any {xs : List (Key × V)} {kvs : List (Key × D)} (h : KVsD K G xs kvs) (k : Key) : (xs.any fun p => decide (p.1 = k)) = kvs.any fun p => decide (p.1 = k) := by
  induction h with
  | nil => rfl
  | cons _ _ _ ih => rw [List.any_cons, List.any_cons, ih]
theorem KVsD.app {xs ys : List (Key × V)} {kvs ms : List (Key × D)} (h : KVsD K G xs kvs) (h2 : KVsD K G ys ms) : KVsD K G (xs ++ ys) (kvs ++ ms) := by
  induction h with
  | nil => exact h2
  | cons a b _ ih => exact .cons a b ih
theorem KVsD.put {xs : List (Key × V)} {kvs : List (Key × D)} (h : KVsD K G xs kvs) {k : Key} {v : V} {d : D} (hk : Den K G (kV k) (kD k)) (hv : Den K G v d) : KVsD K G (putK xs k v) (putD kvs k d) := by
  unfold putK putD
  rw [h.any k]
  by_cases z : (kvs.any fun p => decide (p.1 = k)) = true
  · rw [if_pos z, if_pos z]
    clear z
    induction h with
    | nil => exact .nil
    | cons a b _ ih =>
      rename_i k' v' d' r s _
      rw [List.map_cons, List.map_cons]
      by_cases e : k' = k
      · rw [if_pos e, if_pos e]; exact .cons a hv ih
      · rw [if_neg e, if_neg e]; exact .cons a b ih
  · rw [if_neg z, if_neg z]
    exact h.app (.cons hk hv .nil)
theorem KVsD.map {more : List (Key × V)} {ms : List (Key × D)} (h2 : KVsD K G more ms) : ∀ {xs : List (Key × V)} {kvs : List (Key × D)}, KVsD K G xs kvs → KVsD K G (mapK xs more) (mapD kvs ms) := by
  induction h2 with
  | nil => intro xs kvs h; exact h
  | cons a b _ ih => intro xs kvs h; exact ih (h.put a b)
theorem KVsD.look {xs : List (Key × V)} {kvs : List (Key × D)} (h : KVsD K G xs kvs) (k : Key) : (∃ v d, valV xs k = some v ∧ lookD kvs k = some d ∧ Den K G v d) ∨ (valV xs k = none ∧ lookD kvs k = none) := by
  induction h with
  | nil => exact .inr ⟨rfl, rfl⟩
  | cons a b _ ih =>
    rename_i k' v' d' r s _
    by_cases e : k' = k
    · exact .inl ⟨v', d', valV_pos e, by unfold lookD; rw [List.find?_cons, decide_eq_true e]; rfl, b⟩
    · have e2 : lookD ((k', d') :: s) k = lookD s k := by unfold lookD; rw [List.find?_cons, decide_eq_false e]
      rw [valV_neg e, e2]
      exact ih
theorem den_key1 {v : V} {x : D} {k : Key} (h : Den K G v x) (e : keyOf1 x = some k) : v = kV k ∧ Den K G (kV k) (kD k) := by
  cases h with
  | int i => cases e; exact ⟨rfl, .int i⟩
  | str x z o => cases e; exact ⟨rfl, .str x z o⟩
  | _ => cases e
end
section
variable {S : Type} {X : Cx} {R : StI S} {a o i e : Expr} {j : Nat} {p pos pos2 : Pos} {pn : List Nat}
def dicKs (ds : DS S) (j : Nat) : Option (List (Key × D)) := match ds[j]? with
  | some (some (.dic kvs)) => some kvs
  | _ => none
theorem dicKs_some {ds : DS S} {j : Nat} {kvs : List (Key × D)} (h : dicKs ds j = some kvs) : ds[j]? = some (some (.dic kvs)) := by
  unfold dicKs at h
  split at h
  · rename_i e; cases h; exact e
  · cases h
def dicLs (ds : DS S) (j : Nat) : Option (List (Key × D)) := match ds[j]? with
  | some (some (.dic kvs)) => some kvs
  | some (some (.lk kvs)) => some kvs
  | _ => none
theorem dicLs_view {K : PySem.W.Frag} {G : Hp} {σ : L2.St} {ds : DS S} {j : Nat} {kvs : List (Key × D)} (w : View K G σ ds) (h : dicLs ds j = some kvs) : ∃ v, σ[j]? = some (some v) ∧ ∃ a xs, v = .ref a ∧ Rd G a (.dK xs) ∧ KVsD K G xs kvs := by
  unfold dicLs at h
  split at h
  · rename_i e
    cases h
    obtain ⟨v, hv, a, xs, e0, q, r⟩ := w.has j _ e
    exact ⟨v, hv, a, xs, e0, .inl q, r⟩
  · rename_i e
    cases h
    obtain ⟨v, hv, a, o, xs, e0, q, _, r⟩ := w.has j _ e
    exact ⟨v, hv, a, xs, e0, .inr ⟨o, q⟩, r⟩
  · cases h
def oDict (f : XF S D) : XF S (MO S) := xb f fun x => xlift ((dictD x).map .dic)
def oDictNew : XF S (MO S) := fun ds => some (.dic [], ds)
def gDLook (j : Nat) (g : DS S → Option D) : DS S → Option (Option D) := fun ds => (dicLs ds j).bind fun kvs => (g ds).bind fun x => (keyOf1 x).map fun k => lookD kvs k
def gDGet (j : Nat) (g : DS S → Option D) : DS S → Option D := fun ds => (gDLook j g ds).bind id
def gDIn (b : Bool) (j : Nat) (g : DS S → Option D) : DS S → Option D := fun ds => (gDLook j g ds).map fun o => .bool (if b then o.isSome else !o.isSome)
theorem dlook {K : PySem.W.Frag} {j : Nat} {g : DS S → Option D} {ds : DS S} {o : Option D} (h : gDLook j g ds = some o) : ∃ kvs x k, dicLs ds j = some kvs ∧ g ds = some x ∧ keyOf1 x = some k ∧ o = lookD kvs k := by
  unfold gDLook at h
  cases e1 : dicLs ds j with
  | none => rw [e1] at h; cases h
  | some kvs =>
    rw [e1, Option.bind_some] at h
    cases e2 : g ds with
    | none => rw [e2] at h; cases h
    | some x =>
      rw [e2, Option.bind_some] at h
      cases e3 : keyOf1 x with
      | none => rw [e3] at h; cases h
      | some k => rw [e3] at h; cases h; exact ⟨kvs, x, k, rfl, rfl, e3, rfl⟩
theorem dget_of {K : PySem.W.Frag} {G1 H1 : Hp} {a : Addr} {xs : List (Key × V)} {kvs : List (Key × D)} {y : V} {x : D} {k : Key} (q : Rd H1 a (.dK xs)) (r : KVsD K G1 xs kvs) (h : Den K G1 y x) (e : keyOf1 x = some k) : ∃ o, DGet H1 a y o ∧ o.isSome = (lookD kvs k).isSome ∧ ∀ d, lookD kvs k = some d → ∃ v, o = some v ∧ Den K G1 v d := by
  obtain ⟨rfl, _⟩ := den_key1 h e
  rcases r.look k with ⟨v, d, h1, h2, h3⟩ | ⟨h1, h2⟩
  · refine ⟨some v, by rw [← h1]; exact .inl ⟨xs, k, q, rfl, rfl⟩, by rw [h2]; rfl, fun d' z => ?_⟩
    rw [h2] at z
    cases z
    exact ⟨v, rfl, h3⟩
  · refine ⟨none, by rw [← h1]; exact .inl ⟨xs, k, q, rfl, rfl⟩, by rw [h2]; rfl, fun d' z => ?_⟩
    rw [h2] at z
    cases z
theorem ep_dget {g : DS S → Option D} (hu : X.A.units + 1 < cLine) (ho : PE X o (tVar j)) (hi : PE X i (tP X.K g)) (hs : NoSl i) : PE X (.Subscript o i pos) (tP X.K (gDGet j g)) :=
  PE.imp (pe_dget hu ho hi hs) fun σ H Q ⟨G, ds, d, s, w, e, k⟩ => by
    unfold gDGet at e
    cases el : gDLook j g ds with
    | none => rw [el] at e; cases e
    | some od =>
      rw [el] at e
      have e : od = some d := e
      obtain ⟨kvs, x, kk, h1, h2, h3, h4⟩ := dlook (K := X.K) el
      obtain ⟨v, hv, a, xs, rfl, q, r⟩ := dicLs_view w h1
      refine ⟨_, hv, G, ds, x, s, w, h2, fun y G1 H1 g1 d1 => ?_⟩
      obtain ⟨o, p1, _, p3⟩ := dget_of (rd_mono g1.sub.same (rd_mono g1.keep q)) (r.mono g1.keep) d1 h3
      obtain ⟨v, rfl, dv⟩ := p3 d (by rw [← h4, e])
      exact ⟨a, v, rfl, p1, k v G1 H1 g1 dv⟩
end
end
section
variable {TBL : TabL}
section
variable {S : Type} {K : PySem.W.Frag} {R : StI S} {ds : DS S} {σ : L2.St} {G H : Hp} {F : Nat → Addr → Prop}
theorem RS.putM (r : RS K R ds σ G H F) {i : Nat} {m m' : MO S} {v : V} {q : Addr} {o : HO} (e : ds[i]? = some (some m)) (hv : σ[i]? = some (some v)) (hq : F i q) (rel : OwnAt K R G (upd H q o) v m' (F i)) :
    RS K R (ds.set i (some m')) σ G (upd H q o) F ∧ Step G H (fun a => ∃ j, F j a) G (upd H q o) (fun a => ∃ j, F j a) := by
  obtain ⟨hi, _⟩ := List.getElem?_eq_some_iff.mp e
  have hg := r.dis i q hq
  have sub : Sub G (upd H q o) := r.sub.write hg (r.ntb i q hq)
  constructor
  · refine ⟨sub, by rw [List.length_set]; exact r.len, ?_, ?_, r.dj, r.dis⟩
    · intro j n z
      by_cases hj : i = j
      · subst hj
        rw [List.getElem?_set_self hi] at z
        cases z
        exact ⟨v, hv, rel⟩
      · rw [List.getElem?_set_ne hj] at z
        obtain ⟨u, h1, h2⟩ := r.own j n z
        refine ⟨u, h1, h2.mono (Same.refl _) fun a ha => upd_ne fun y => ?_⟩
        rw [y] at ha
        exact hj (r.dj i j q hq ha)
    · intro j z
      by_cases hj : i = j
      · subst hj
        exact absurd (List.getElem?_set_self hi) (z m')
      · rw [List.getElem?_set_ne hj] at z
        exact r.emp j z
  · refine ⟨?_, Same.refl _, sub, fun b hb => .inl hb, fun b hb => .inl hb⟩
    intro a ha u z
    rw [upd_ne fun y => ha ⟨i, by rw [y]; exact hq⟩]
    exact .inl z
end
section
variable {S : Type} {X : Cx} {R : StI S} {o i e : Expr} {j : Nat} {pos pos2 : Pos} {pn : List Nat}
def gDPut (j : Nat) (f : XF S D) (g : DS S → Option D) : SF S := fun ds => (f ds).bind fun p => (dicKs p.2 j).bind fun kvs => (g (hideDS p.2)).bind fun x => (keyOf1 x).bind fun k => if kvs.length < sizeLine then some (.nx (p.2.set j (some (.dic (putD kvs k p.1))))) else none
theorem ss_dput {f : XF S D} {g : DS S → Option D} (hu : X.A.units + 1 < cLine) (ho : PE X o (tVar j)) (hi : PE X i (tP X.K g)) (hv : PE X e (tX X.K R f)) (hs : swapsWith e (some (.Subscript o i pos2)) pos.line X.env = pure false) :
    PS X (.Assign [.Subscript o i pos2] e pos) (tS X.K R pn (gDPut j f g)) := psi (ps_dput hu ho hi hv hs) fun Dn σ H ⟨G, F, ds, oo, r, e, k⟩ => by
  unfold gDPut at e
  cases ef : f ds with
  | none => rw [ef] at e; cases e
  | some p =>
    rw [ef, Option.bind_some] at e
    obtain ⟨d, ds1⟩ := p
    dsimp only at e
    cases ed : dicKs ds1 j with
    | none => rw [ed] at e; cases e
    | some kvs =>
      rw [ed, Option.bind_some] at e
      cases eg : g (hideDS ds1) with
      | none => rw [eg] at e; cases e
      | some x =>
        rw [eg, Option.bind_some] at e
        cases ek : keyOf1 x with
        | none => rw [ek] at e; cases e
        | some kk =>
          rw [ek, Option.bind_some] at e
          split at e
          · rename_i hz
            cases e
            refine ⟨G, F, ds, d, ds1, r, ef, fun v G1 H1 F1 r1 s1 d1 => ?_⟩
            obtain ⟨w, hw, a, xs, rfl, h1, h2, h3, hf⟩ := r1.own j _ (dicKs_some ed)
            refine ⟨_, hw, G1, hideDS ds1, x, r1.sub, r1.view, eg, fun u G2 H2 g2 d2 => ?_⟩
            have r2 := r1.grow g2
            have q1 := g2.all.nt h1
            obtain ⟨rfl, dk⟩ := den_key1 d2 ek
            have xl : xs.length < sizeLine := by rw [h3.length]; exact hz
            have hdp : DPut H2 a (kV kk) v (upd H2 a (.dK (putK xs kk v))) := DPut.k q1 xl
            obtain ⟨r3, s3⟩ := r2.putM (m' := .dic (putD kvs kk d)) (o := .dK (putK xs kk v)) (dicKs_some ed) hw ((hf a).mpr rfl) ⟨a, _, rfl, upd_same, Nat.le_trans (length_putK xs kk v) xl, (h3.mono g2.keep).put dk (d1.mono g2.keep), hf⟩
            exact ⟨a, _, rfl, hdp, k σ G2 _ F1 r3 ((s1.trans g2.step).trans s3) fun _ _ => rfl⟩
          · cases e
end
end
section
variable {TBL : TabL}
section
variable {S : Type} {X : Cx} {R : StI S} {a b e : Expr} {j : Nat} {p pos : Pos} {pn : List Nat}
def xIxL (j : Nat) (f : XF S D) : XF S D := fun ds => (lstAt ds j).bind fun _ => (f ds).bind fun q => (lstAt q.2 j).bind fun xs => match q.1 with
  | .int i => (atI xs i).map fun d => (d, q.2)
  | _ => none
end
end
section
variable {TBL : TabL}
section
variable {S : Type} {X : Cx} {tg a b c : Expr} {g1 : DS S → Option (List D)} {p pos : Pos}
end
end
section
variable {TBL : TabL}
def putF (ob : Addr → Obj) : Hp → List Addr → List (Key × V) → Hp
  | H, a :: l, q :: m => putF ob (upd H a (.frz (ob a) (.tup [kV q.1, q.2]))) l m
  | H, _, _ => H
section
variable {ob : Addr → Obj}
end
section
variable {X : Cx} {e : Expr} {te : TE} {p ap cp pos : Pos}
end
section
variable {S : Type} {X : Cx} {R : StI S} {e : Expr} {j : Nat} {p ap cp pos : Pos}
def encKV (q : Key × D) : D := .tuple [kD q.1, q.2]
def oDItems (j : Nat) : XF S (MO S) := fun ds => (dicKs ds j).bind fun kvs => if kvs.length ≤ sizeLine then some (.lst (kvs.map encKV), ds) else none
end
end
section
variable {TBL : TabL}
structure TopTup (K : PySem.W.Frag) (mg : Str → Option Value) (x : Str) (ks : List Str) : Prop where
  ex : ∃ (a : Addr) (o : Obj) (its : Array Value) (n : Nat), mg x = some (.ref a) ∧ K.lookup a = some o ∧ o.cls = .type "tuple" ∧ o.dict = none ∧ o.data = .seq its n ∧ Vals (ks.map V.str) its.toList
theorem den_strsK {K : PySem.W.Frag} {G : Hp} : ∀ {l : List Str}, (∀ k ∈ l, k.length ≤ sizeLine ∧ PyData.strOk k = true) → DenAll K G (l.map V.str) (l.map PyData.str)
  | [], _ => .nil
  | y :: r, h => .cons (.str y (h y List.mem_cons_self).1 (h y List.mem_cons_self).2) (den_strsK fun z hz => h z (List.mem_cons_of_mem _ hz))
section
variable {S : Type} {X : Cx} {pos : Pos}
theorem ep_globT {x : Str} {ks : List Str} (hg : Gl X x) (T : TopTup X.K X.mg x ks) (ok : ∀ k ∈ ks, k.length ≤ sizeLine ∧ PyData.strOk k = true) (hz : ks.length ≤ 1000) (hd : (x == ("__debug__" : Str)) = false := by decide) : PE X (.Name x pos) (tP X.K (gC (S := S) (.tuple (ks.map .str)))) := by
  obtain ⟨a, o, its, n, hm, h1, h2, h3, h4, h5⟩ := T.ex
  have sz : (1000 : Nat) ≤ sizeLine := by decide
  have l1 : its.size ≤ sizeLine := by
    have e1 : its.toList.length = ks.length := by rw [← h5.length, List.length_map]
    have e2 : its.size = its.toList.length := by simp
    omega
  exact ep_glob hg hm (v := .ref a) rfl (fun G => .tup (.inr ⟨o, its, n, h1, h2, h3, h4, l1, h5⟩) (by rw [List.length_map]; omega) (den_strsK ok)) hd
end
end
section
variable {TBL : TabL}
section
variable {S : Type} {X : Cx} {o e : Expr} {apos cpos : Pos}
end
end
section
variable {TBL : TabL}
def wKeep (K : PySem.W.Frag) (c : Value) (i : Nat) (ts tr : Addr → Value → Option Addr → TS) (D : Ends) : WX := fun cls d σ H =>
  PySem.W.exmOne K cls c = some true ∧ ∀ a, H a = none → ts a cls d ⟨fun σ1 H1 => H1 a = none → tr a cls d D (σ1.set i none) H1, D.rt, fun σ1 H1 => D.bk (σ1.set i none) H1, fun σ1 H1 => D.ct (σ1.set i none) H1⟩ (σ.set i (some (.ref a))) H
def tTryK (K : PySem.W.Frag) (c : Value) (i : Nat) (tb : WX → TS) (ts tr : Addr → Value → Option Addr → TS) (t0 : TS) : TS := fun D σ H => tb (wKeep K c i ts tr D) { D with nx := t0 D } σ H
section
variable {X : Cx} {x n : Str} {c : Value} {i : Nat} {body suite rest : List Stmt} {b0 : Stmt} {np pos pos' : Pos} {tb : WX → TS} {ts tr : Addr → Value → Option Addr → TS} {t0 : TS}
theorem inv_tr {a : Addr} {q : Addr × Obj} {l : List (Addr × Obj)} {σ : L2.St} {H : Hp} {s : Shared} (ok : X.Ok) (I : Inv (X.suite a (q :: l)) [] σ H s) : Inv (X.tr (q :: l) X.xe) [] σ H s :=
  ⟨ok.toTry _ _, I.os, I.bare, I.base, I.loc, I.cell, I.free, I.freeC, I.pin, I.hok, I.len⟩
theorem inv_untr {q : Addr × Obj} {pins : List (Addr × Obj)} {σ : L2.St} {H : Hp} {s : Shared} (ok : X.Ok) (I : Inv (X.tr (q :: (X.pn ++ pins)) X.xe) [] σ H s) : Inv X pins σ H s :=
  ⟨ok, I.os, I.bare, I.base, I.loc, I.cell, I.free, I.freeC, fun p hp => I.pin p (List.mem_append_left _ (.tail _ hp)), I.hok, I.len⟩
theorem pss_try_keep (hs : X.stack = X.env :: X.outer) (hf : X.env.frame = some X.env.locals) (hN : X.N.Nodup) (hi : X.N[i]? = some n) (hln : X.env.kindOf n = some .local) (hc : Names X x c)
    (hb : ∀ (W : WX) (pn : List (Addr × Obj)) (xe : Value → Shared → Prop), Takes (X.tr pn xe) W → PassesOwn (model X.prog X.w) X.A X.env xe → PSs (X.tr pn xe) body (tb W))
    (hsu : ∀ (a : Addr) (oe : Obj) (cls : Value) (d : Option Addr) (pn : List (Addr × Obj)), Zc cls d oe → (∃ vs, oe.data = .fields vs) → PSs (X.suite a ((a, oe) :: pn)) (b0 :: suite) (ts a cls d))
    (hr : ∀ (a : Addr) (oe : Obj) (cls : Value) (d : Option Addr) (pn : List (Addr × Obj)), Zc cls d oe → (∃ vs, oe.data = .fields vs) → PSs (X.tr ((a, oe) :: pn) X.xe) rest (tr a cls d))
    (h0 : PSs X rest t0) : PSs X (.Try body [.ExceptHandler (some (.Name x np)) (some n) (b0 :: suite) pos'] [] [] pos :: rest) (tTryK X.K c i tb ts tr t0) := by
  refine ⟨fun pins s σ H D I h => wpAny_execs_cons (wpAny_Try_except ?_)⟩
  have ok := I.ok
  have frs1 : X.A.frames = some (X.env :: X.outer) := ok.frames.trans (by rw [hs])
  have lo : Loc X.env.scope n := Or.inl hln
  let QF : Flow → Shared → Prop := fun f s' => match f with
    | .next => wpAny (model X.prog X.w) X.A (execs rest X.env) (SP X pins D) X.xe s'
    | f => SP X pins D f s'
  show wpAny _ _ _ (fun (f : Flow) (s₁ : Shared) => match f with | .next => wpAny (model X.prog X.w) X.A (execs [] X.env) QF X.xe s₁ | f => QF f s₁) _ s
  refine wpAny_mono ((hb (wKeep X.K c i ts tr D) (X.pn ++ pins) (fun e s1 => wpAny (model X.prog X.w) X.A (noteFrame e X.env) (fun _ s2 => wpAny (model X.prog X.w) X.A (setFlight e none) (fun _ s3 =>
    wpAny (model X.prog X.w) X.A (handleBy e X.env [.ExceptHandler (some (.Name x np)) (some n) (b0 :: suite) pos']) QF X.xe s3) X.xe s2) X.xe s1) (fun u s' xx => ?_) PassesOwn.looking).run [] s σ H { D with nx := t0 D } (I.toTry _) h) (fun f s1 hp => ?_) (fun _ _ z => z)
  · obtain ⟨a, B, sI, pins', σ', H', cls, d, rfl, J0, nb, up, sky, na, os, ag, hb1, hyes⟩ := xx
    have J : Inv X pins σ' H' sI := J0.ofTry ok
    have sky1 : Sky B (X.env :: X.outer) a (Zc cls d) X.env.locals s'.heap := hs ▸ sky
    show wpAny (model X.prog X.w) X.A (noteFrame (.ref a) X.env) _ _ _
    refine Sky.land Zc.steady frs1 hf sky1 fun h3 fl up3 => ?_
    have J3 : Inv X pins σ' H' { s' with heap := h3 } := J.landed nb fl.1 (up.trans up3) os ag
    obtain ⟨oe3, vs3, e3, z3, d3⟩ := fl.there
    have out : a ∉ frs (X.env :: X.outer) := fun hm => by
      obtain ⟨_, o', e', hnf⟩ := fl.2.2.1.mem hm
      rw [e3] at e'
      cases e'
      exact hnf _ d3
    have nL : a ≠ X.env.locals := fun z => out (List.mem_filterMap.mpr ⟨X.env, .head _, hf.trans (congrArg some z.symm)⟩)
    have nF : a ∉ X.fs := fun hm => by
      obtain ⟨e, he, q⟩ := List.mem_filterMap.mp hm
      exact out (List.mem_filterMap.mpr ⟨e, .tail _ he, q⟩)
    have S3 := J3.suite e3 d3 na nL nF
    refine wpAny_handleBy_cons (codeAny_handlers_test ?_) nofun
    have LT : PySem.W.Looks (model X.prog X.w) h3 (typeOf (.ref a)) cls := fun A Q E s k q => wpAny_typeOf_ref (k _ _ e3) (by rw [z3.1]; exact q)
    have LM := PySem.W.exm_one (M := model X.prog X.w) (J3.kIn) LT hb1
    have nm : ∀ {Q : Value → Shared → Prop} {E : Value → Shared → Prop}, Q c { s' with heap := h3 } → wpAny (model X.prog X.w) (X.A.mark (some (.ref a))) (eval (.Name x np) X.env) Q E { s' with heap := h3 } := fun {Q E} q => by
      obtain ⟨hg, hd, hm | ⟨hm, hv, hn⟩⟩ := hc
      · exact ld_glob (X := X.suite a ((a, oe3) :: (X.pn ++ pins))) S3 hg hm q hd
      · exact ld_blt (X := X.suite a ((a, oe3) :: (X.pn ++ pins))) S3 hg hm hv q hn hd
    refine nm (LM.here (codeAny_handlers_suite_as (HandSPX.lands_againZ fl fun h4 fl4 up4 => ?_)))
    have J4 : Inv X pins σ' H' { s' with heap := h4 } := J.landed nb fl4.1 ((up.trans up3).trans up4) os ag
    obtain ⟨oe4, vs4, e4, z4, d4⟩ := fl4.there
    have S4 := J4.suite e4 d4 na nL nF
    refine store_ok (X := X.suite a ((a, oe4) :: (X.pn ++ pins))) (v := .ref a) S4 hN hi lo rfl (fun s5 S5 => ?_) (.inr hln)
    refine wpAny_mono ((hsu a oe4 cls d (X.pn ++ pins) z4 ⟨_, d4⟩).run [] s5 _ H' _ S5 (hyes a na)) (fun f s6 hp => ?_) (fun _ _ z => False.elim z)
    have fin : ∀ {σ6 : L2.St} {H6 : Hp} {Q : Shared → Prop}, Inv (X.suite a ((a, oe4) :: (X.pn ++ pins))) [] σ6 H6 s6 → (∀ s7, Inv (X.tr ((a, oe4) :: (X.pn ++ pins)) X.xe) [] (σ6.set i none) H6 s7 → Q s7) →
        wpAny (model X.prog X.w) X.A (do bindName X.env n .none; unbindBehindTheSuite X.env n pos') (fun _ s7 => Q s7) X.xe s6 := fun {σ6 H6 Q} S6 hq => gone_ok (X := X.tr ((a, oe4) :: (X.pn ++ pins)) X.xe) (inv_tr ok S6) hN hi hln hq
    cases f with
    | next =>
      obtain ⟨σ6, H6, S6, q6⟩ := hp
      have h6 : H6 a = none := (S6.pin (a, oe4) (List.mem_append_left _ (.head _))).2.1
      refine fin S6 fun s7 J7 => ?_
      show wpAny (model X.prog X.w) X.A (execs rest X.env) (SP X pins D) X.xe s7
      refine thn ((hr a oe4 cls d (X.pn ++ pins) z4 ⟨_, d4⟩).run [] s7 _ H6 D J7 (q6 h6)) fun f s8 hp => ?_
      cases f with
      | next => obtain ⟨σ8, H8, J8, q8⟩ := hp; exact ⟨σ8, H8, inv_untr ok J8, q8⟩
      | brk => obtain ⟨σ8, H8, J8, q8⟩ := hp; exact ⟨σ8, H8, inv_untr ok J8, q8⟩
      | cont => obtain ⟨σ8, H8, J8, q8⟩ := hp; exact ⟨σ8, H8, inv_untr ok J8, q8⟩
      | ret u => obtain ⟨v8, σ8, H8, J8, r8, q8⟩ := hp; exact ⟨v8, σ8, H8, inv_untr ok J8, r8, q8⟩
    | brk => obtain ⟨σ6, H6, S6, q6⟩ := hp; exact fin S6 fun s7 J7 => ⟨_, _, inv_untr ok J7, q6⟩
    | cont => obtain ⟨σ6, H6, S6, q6⟩ := hp; exact fin S6 fun s7 J7 => ⟨_, _, inv_untr ok J7, q6⟩
    | ret u => obtain ⟨v6, σ6, H6, S6, r6, q6⟩ := hp; exact fin S6 fun s7 J7 => ⟨_, _, _, inv_untr ok J7, r6, q6⟩
  · cases f with
    | next =>
      obtain ⟨σ', H', J', q⟩ := hp
      exact wpAny_execs_nil (h0.run pins s1 σ' H' D (J'.ofTry ok) q)
    | brk => obtain ⟨σ', H', J', q⟩ := hp; exact ⟨σ', H', J'.ofTry ok, q⟩
    | cont => obtain ⟨σ', H', J', q⟩ := hp; exact ⟨σ', H', J'.ofTry ok, q⟩
    | ret u => obtain ⟨v, σ', H', J', r, q⟩ := hp; exact ⟨v, σ', H', J'.ofTry ok, r, q⟩
end
end
section
variable {TBL : TabL}
structure Exc where
  nm : Str
  fl : Option (Str × D)
def ExcIs (K : PySem.W.Frag) (G : Hp) (mg : Str → Option Value) (e : Exc) (cls : Value) (d : Option Addr) : Prop := (∃ C, mg e.nm = some (.ref C) ∧ cls = .ref C) ∧ match e.fl with
  | none => d = none
  | some q => ∃ dd v, d = some dd ∧ G dd = some (.xd [(q.1, v)]) ∧ Den K G v q.2
theorem ExcIs.off {K : PySem.W.Frag} {G G' : Hp} {mg : Str → Option Value} {e : Exc} {cls : Value} {d : Option Addr} (h : ExcIs K G mg e cls d) (s : SameX G G') : ExcIs K G' mg e cls d := by
  obtain ⟨h1, h2⟩ := h
  refine ⟨h1, ?_⟩
  cases hf : e.fl with
  | none => rw [hf] at h2; exact h2
  | some q =>
    rw [hf] at h2
    obtain ⟨dd, v, e1, e2, e3⟩ := h2
    exact ⟨dd, v, e1, s _ _ e2 (by intro _ _ y; cases y), e3.off s⟩
inductive OX (S : Type) where
  | out (o : Out S) | ex (e : Exc) (ds : DS S)
abbrev SFX (S : Type) := DS S → Option (OX S)
section
variable {S : Type} {K : PySem.W.Frag} {R : StI S} {pn : List Nat} {mg : Str → Option Value} {W : WX} {Dn : Ends} {σ : L2.St} {H : Hp}
def XEnd [TabL] (K : PySem.W.Frag) (R : StI S) (pn : List Nat) (mg : Str → Option Value) (W : WX) (σ : L2.St) (G H : Hp) (P : Addr → Prop) (Dn : Ends) : OX S → Prop
  | .out o => SEnd K R pn σ G H P Dn o
  | .ex e ds' => ∀ cls d σ' G' H' F', ExcIs K G' mg e cls d → RS K R ds' σ' G' H' F' → Step G H P G' H' (fun a => ∃ i, F' i a) → (∀ i ∈ pn, σ'[i]? = σ[i]?) → W cls d σ' H'
theorem XEnd.shift {σ1 : L2.St} {G G1 H1 : Hp} {P P1 : Addr → Prop} {o : OX S} (h : XEnd K R pn mg W σ G H P Dn o) (s : Step G H P G1 H1 P1) (p : ∀ i ∈ pn, σ1[i]? = σ[i]?) : XEnd K R pn mg W σ1 G1 H1 P1 Dn o := by
  cases o with
  | out o => exact SEnd.shift (o := o) h s p
  | ex e ds => exact fun cls d σ' G' H' F' x r t q => h cls d σ' G' H' F' x r (s.trans t) fun i hi => (q i hi).trans (p i hi)
def tSX [TabL] (K : PySem.W.Frag) (R : StI S) (pn : List Nat) (mg : Str → Option Value) (W : WX) (g : SFX S) : TS := fun Dn σ H => ∃ G F ds o, RS K R ds σ G H F ∧ g ds = some o ∧ XEnd K R pn mg W σ G H (fun a => ∃ i, F i a) Dn o
def gLift (g : SF S) : SFX S := fun ds => (g ds).map .out
def gSeqX (g h : SFX S) : SFX S := fun ds => (g ds).bind fun o => match o with
  | .out (.nx ds') => h ds'
  | o => some o
def gNextX : SFX S := fun ds => some (.out (.nx ds))
def gRaise (e : Exc) : SFX S := fun ds => some (.ex e ds)
def gIfX (c : XF S Bool) (g h : SFX S) : SFX S := fun ds => (c ds).bind fun p => if p.1 then g p.2 else h p.2
variable {X : Cx} {st : Stmt} {rest : List Stmt} {g : SF S} {gx hx : SFX S}
theorem sx_lift (h : PS X st (tS X.K R pn g)) : PS X st (tSX X.K R pn X.mg W (gLift g)) := PS.imp h fun D σ H ⟨G, F, ds, o, r, e, k⟩ => by
  unfold gLift at e
  cases eg : g ds with
  | none => rw [eg] at e; cases e
  | some o1 =>
    rw [eg] at e
    cases e
    exact ⟨G, F, ds, o1, r, eg, k⟩
theorem sx_seq (h1 : PS X st (tSX X.K R pn X.mg W gx)) (h2 : PSs X rest (tSX X.K R pn X.mg W hx)) : PSs X (st :: rest) (tSX X.K R pn X.mg W (gSeqX gx hx)) := PSs.imp (pss_cons h1 h2) fun D σ H ⟨G, F, ds, o, r, e, k⟩ => by
  unfold gSeqX at e
  cases eg : gx ds with
  | none => rw [eg] at e; cases e
  | some o1 =>
    rw [eg] at e
    refine ⟨G, F, ds, o1, r, eg, ?_⟩
    cases o1 with
    | ex x ds1 => cases e; exact k
    | out o2 =>
      cases o2 with
      | nx ds1 => exact fun σ' G' H' F' r' s p => ⟨G', F', ds1, o, r', e, k.shift s p⟩
      | bk ds1 => cases e; exact k
      | ct ds1 => cases e; exact k
      | rt m ds1 => cases e; exact k
theorem sx_one (h : PS X st (tSX X.K R pn X.mg W gx)) : PSs X [st] (tSX X.K R pn X.mg W gx) := pss_one h
theorem sx_nil : PSs X [] (tSX X.K R pn X.mg W (gNextX (S := S))) := PSs.imp pss_nil fun D σ H ⟨G, F, ds, o, r, e, k⟩ => by
  cases e
  exact k σ G H F r (.refl r.sub) fun _ _ => rfl
theorem sx_if {c : XF S Bool} {e : Expr} {b1 b2 : List Stmt} {pos : Pos} (hc : PT X e (tXT X.K R c)) (h1 : PSs X b1 (tSX X.K R pn X.mg W gx)) (h2 : PSs X b2 (tSX X.K R pn X.mg W hx)) : PS X (.If e b1 b2 pos) (tSX X.K R pn X.mg W (gIfX c gx hx)) := PS.imp (ps_if hc h1 h2) fun D σ H ⟨G, F, ds, o, r, e, k⟩ => by
  unfold gIfX at e
  cases ef : c ds with
  | none => rw [ef] at e; cases e
  | some p =>
    rw [ef] at e
    simp only [Option.bind_some] at e
    refine ⟨G, F, ds, p.1, p.2, r, ef, fun G' H' F' r' s => ?_⟩
    cases hp : p.1 with
    | true =>
      rw [hp, if_pos rfl] at e
      exact iteT ⟨G', F', p.2, o, r', e, k.shift s fun _ _ => rfl⟩
    | false =>
      rw [hp, if_neg Bool.false_ne_true] at e
      exact iteF ⟨G', F', p.2, o, r', e, k.shift s fun _ _ => rfl⟩
structure ExcT (K : PySem.W.Frag) (mg : Str → Option Value) (x : Str) : Prop where
  ex : ∃ (C : Addr) (bmB : List Value) (B newId initId : String), ExcBaseFacts B newId initId bmB ∧ PySem.W.excIn K C bmB newId = true ∧ mg x = some (.ref C) ∧ PySem.W.keepIn K (.ref C) = true ∧ PySem.W.subIn K (.ref C) (.type "BaseException") = some true ∧ PySem.W.typeIn K (.ref C) = some (.type "type")
theorem sx_raise {x m : Str} {j : Nat} {p p2 pos pos2 : Pos} (hc : X.calm = true) (tk : Takes X W) (T : ExcT X.K X.mg x) (hg : Gl X x) (hd : (x == ("__debug__" : Str)) = false := by decide) : PS X (.Raise (some (.Call (.Name x p) [.Constant (.str m) j p2] [] pos)) none pos2) (tSX X.K R pn X.mg W (gRaise (S := S) ⟨x, none⟩)) := by
  obtain ⟨C, bmB, B, newId, initId, F, q, gC, kC, s1, s2⟩ := T.ex
  exact PS.imp (ps_raise hc tk (pmk_own F q gC kC (raises_own s1 s2) hg hd)) fun D σ H ⟨G, F, ds, o, r, e, k⟩ => by
    cases e
    exact k (.ref C) none σ G H F ⟨⟨C, gC, rfl⟩, rfl⟩ r (.refl r.sub) fun _ _ => rfl
def runPX (n : Nat) (g : SFX S) : List D → Option (Except Exc (MO S)) := fun as => (g (startD n (as.map .d))).bind fun o => match o with
  | .out o => (outM o).map fun p => .ok p.1
  | .ex e _ => some (.error e)
def okX (o : Option (Except Exc (MO S))) : Option (MO S) := match o with
  | some (.ok m) => some m
  | _ => none
def spPX [TabL] (K : PySem.W.Frag) (R : StI S) (mg : Str → Option Value) (n : Nat) (F : List D → Option (Except Exc (MO S))) : Sp := fun vs H Q E => vs.length = n ∧ ∃ G as r, Sub G H ∧ DenAll K G vs as ∧ F as = some r ∧ match r with
  | .ok m => ∀ v G' H' fr, Step G H (fun _ => False) G' H' fr → OwnAt K R G' H' v m fr → (∀ a, fr a → G' a = none) → Q v H'
  | .error e => ∀ cls d G' H', ExcIs K G' mg e cls d → Step G H (fun _ => False) G' H' (fun _ => False) → E cls d H'
end
section
variable {S : Type} {P : Program} {w : World} {K : PySem.W.Frag} {mg : Str → Option Value} {base : Heap} {x qual : Str} {st : Stmt} {f : Addr} {fd : FuncData} {N ps : List Str} {k : Nat} {R : StI S} {g : SFX S}
def BodyOkX [TabL] (P : Program) (w : World) (K : PySem.W.Frag) (mg : Str → Option Value) (base : Heap) (N : List Str) (qual : Str) (st : Stmt) (f : Addr) (k : Nat) (R : StI S) (g : SFX S) : Prop :=
  ∀ (cdv : Value) (A : Around) (outer : List Env) (s : Shared) (H : Hp) (E : XK), Room k (A.deeper (envOfC qual (defScope st) s.heap.objs.size f cdv)) → (A.deeper (envOfC qual (defScope st) s.heap.objs.size f cdv)).guards = some [] →
    Takes (cxOf (CX P w) P w K mg base N qual (defScope st) f cdv A outer s H E) (fun cls d _ H => E cls d H) →
    PSs (cxOf (CX P w) P w K mg base N qual (defScope st) f cdv A outer s H E) (defBody st) (tSX K R [] mg (fun cls d _ H => E cls d H) g)
theorem fn_PX (Fn : Fun K x qual st f fd) (sc : FnScope N ps (defScope st)) (hbody : BodyOkX P w K mg base N qual st f k R g) : FnG P w K mg base (CX P w) (k + 1) f fd ps (spPX K R mg ps.length (runPX N.length g)) := by
  refine ⟨fun vs H Q E h => h.1, fun A outer s H args us vs Q E hr hgd e0 hb r hsp => ?_⟩
  obtain ⟨oc, od, kV, doc, pm, an, cdv, ct, osl, rfl, lk, hcd⟩ := Fn.ex
  have inK : K.In s.heap := e0.mod.kin.keeps fun b o q => (e0.bs b o q).1
  have noLim : s.heap.NoLimit := e0.mod.nolimit.keeps fun b o q => (e0.bs b o q).1
  have kinds : ∀ y ∈ ps.zip us, (defScope st).names.lookup y.1 = some .local ∨ ((defScope st).names.lookup y.1 = some .cell ∧ ((cellsFrom (s.heap.objs.size + 1) (defScope st).names []).lookup y.1).isSome = true) := by
    rintro ⟨n, v⟩ hy
    exact (sc.par n (List.of_mem_zip hy).1).elim .inl fun q => .inr ⟨q, PySem.W.cellsFrom_some _ _ _ (.inl q)⟩
  refine codeAny_call_function hr.depth (inK _ _ lk) rfl sc.co sc.gen rfl (PySem.W.codeRec_of inK hcd) (hb _ _ _ _ (wpAny_newFunctionEnv_cells sc.kind kinds fun env he s1 hin => ?_))
  subst he
  refine ⟨noLim.keeps hin.toInCall.keep, codeAny_func ?_⟩
  have hgd2 : (A.deeper (envOfC qual (defScope st) s.heap.objs.size f cdv)).guards = some [] := by first | exact hgd | (simpa [Around.deeper] using hgd)
  have I0 : Inv (cxOf (CX P w) P w K mg base N qual (defScope st) f cdv A outer s H E) [] (L2.start N vs) H s1 := inv_start sc hr.hd e0 hsp.1 r hin
  have tk : Takes (cxOf (CX P w) P w K mg base N qual (defScope st) f cdv A outer s H E) (fun cls d _ H => E cls d H) := takes_of (X := cxOf (CX P w) P w K mg base N qual (defScope st) f cdv A outer s H E) rfl rfl rfl rfl
  have ht := hbody cdv A outer s H E (hr.deeper _) hgd2 tk
  have ends : ∀ {σ' : L2.St} {H' : Hp} {v : V} {u : Value} {s' : Shared}, Inv (cxOf (CX P w) P w K mg base N qual (defScope st) f cdv A outer s H E) [] σ' H' s' → RelV v u → Q v H' → CE outer P w H s Q u s' := fun J rv q => ⟨_, _, J.os, J.bare, J.base, J.hok, rv, q⟩
  refine wpAny_mono (ht.run [] s1 (L2.start N vs) H ⟨fun _ H' => Q .non H', Q, fun _ _ => False, fun _ _ => False⟩ I0 ?_) (fun fl s' hs => ?_) fun _ _ z => z
  · obtain ⟨hl, G, as, rr, sm, d, e, q⟩ := hsp
    unfold runPX at e
    cases eg : g (startD N.length (as.map .d)) with
    | none => rw [eg] at e; cases e
    | some o =>
      rw [eg] at e
      have r := rs_start (N := N) sm (argOk_data (R := R) (H := H) d)
      refine ⟨G, _, _, o, r, eg, ?_⟩
      have nf : ∀ {G' H' : Hp} {P' : Addr → Prop}, Step G H (fun a => ∃ (i : Nat), False) G' H' P' → Step G H (fun _ => False) G' H' P' := fun s => ⟨fun a _ o e => s.frame a (fun ⟨_, z⟩ => z) o e, s.keep, s.sub, fun b hb => by
        rcases s.new0 b hb with z | z | ⟨_, z⟩
        · exact .inl z
        · exact .inr (.inl z)
        · exact z.elim, fun b hb => (s.newf b hb).elim (fun ⟨_, z⟩ => z.elim) .inr⟩
      cases o with
      | ex x ds' =>
        cases e
        exact fun cls d σ' G' H' F' xi r' s' _ => q cls d G' H' xi ((nf s').weaken fun _ z => z.elim)
      | out o =>
        cases o with
        | nx ds' =>
          cases e
          exact fun σ' G' H' F' r' s' _ => q .non G' H' (fun _ => False) ((nf s').weaken fun _ z => z.elim) ⟨.non, fun _ z => z⟩ fun _ z => z.elim
        | rt m' ds' =>
          cases e
          exact fun v σ' G' H' F' fr r' s' o' h1 h2 _ => q v G' H' fr ((nf s').weaken fun _ z => .inr z) o' h2
        | bk ds' => cases e
        | ct ds' => cases e
  · match fl, hs with
    | .ret u, ⟨v, σ', H', J, rv, q⟩ => exact ends J rv q
    | .next, ⟨σ', H', J, q⟩ => exact ends (v := V.non) (u := Value.none) J rfl q
    | .brk, ⟨_, _, _, q⟩ => exact q.elim
    | .cont, ⟨_, _, _, q⟩ => exact q.elim
theorem fnX_ok {n : Nat} {F : List D → Option (Except Exc (MO S))} (Fn : FnG P w K mg base (CX P w) k f fd ps (spPX K R mg n F)) : FnG P w K mg base CX0 k f fd ps (spP K R n fun as => okX (F as)) := by
  have conv : ∀ vs H Q E, spP K R n (fun as => okX (F as)) vs H Q E → spPX K R mg n F vs H Q fun _ _ _ => False := fun vs H Q E ⟨h1, G, as, m, h2, h3, h4, h5⟩ => by
    have h4 : okX (F as) = some m := h4
    cases e : F as with
    | none => rw [e] at h4; cases h4
    | some r =>
      rw [e] at h4
      cases r with
      | ok m' => cases h4; exact ⟨h1, G, as, _, h2, h3, e, h5⟩
      | error x => cases h4
  refine ⟨fun vs H Q E h => Fn.len vs H Q _ (conv vs H Q E h), fun A outer s H args us vs Q E hr hgd e0 hb r h => ?_⟩
  refine codeAny_mono (Fn.run A outer s H args us vs Q (fun _ _ _ => False) hr hgd e0 hb r (conv vs H Q E h)) fun res s2 hq => ?_
  match res, hq with
  | .error er, hq => obtain ⟨a, B, H', cls, d, _, _, _, _, _, _, _, z⟩ := hq; exact z.elim
  | .ok (.ret u), hq => exact hq
  | .ok .next, hq => exact hq.elim
  | .ok .brk, hq => exact hq.elim
  | .ok .cont, hq => exact hq.elim
end
end
section
variable {TBL : TabL}
def R0e : StI Exc := ⟨fun _ _ _ _ _ => False, fun h => h.elim, fun h => h.elim, fun h => h.elim⟩
def R1e (K : PySem.W.Frag) (mg : Str → Option Value) (a : Addr) (cls : Value) (d : Option Addr) : StI Exc := ⟨fun G _ v s fp => v = .ref a ∧ ExcIs K G mg s cls d ∧ ∀ b, ¬ fp b, fun h s _ => ⟨h.1, h.2.1.off s, h.2.2⟩, fun h a ha => absurd ha (h.2.2 a), fun h a ha => absurd ha (h.2.2 a)⟩
section
variable {K : PySem.W.Frag} {mg : Str → Option Value} {a : Addr} {cls : Value} {dx : Option Addr} {σ : L2.St} {G H : Hp} {F : Nat → Addr → Prop} {ds : DS Exc}
def dataM : MO Exc → Bool
  | .d _ => true
  | .lst _ => true
  | _ => false
def xStV (i : Nat) : XF Exc (MO Exc) := fun ds => (stAt ds i).map fun s => (.st s, ds)
theorem eo_stV {X : Cx} {e : Expr} {i : Nat} {KK : PySem.W.Frag} (h : PE X e (tVar i)) : PE X e (tO X.K (R1e KK mg a cls dx) (xStV i)) := PE.imp h fun σ H Q ⟨G, F, ds, m, ds', r, e, k⟩ => by
  unfold xStV at e
  cases es : stAt ds i with
  | none => rw [es] at e; cases e
  | some s =>
    rw [es] at e
    cases e
    obtain ⟨v, h1, h2⟩ := r.own i _ (stAt_some es)
    refine ⟨v, h1, ?_⟩
    exact k v G H F (fun _ => False) r ⟨fun _ _ _ h => .inl h, Same.refl _, r.sub, fun _ h => .inl h, fun b h => h.elim .inl False.elim⟩ ⟨h2.1, h2.2.1, fun _ z => z⟩ (fun _ z => z.elim) fun _ z => z.elim
end
theorem Step.pre {G H G1 H1 : Hp} {P P1 P2 : Addr → Prop} (a : Step G H P G1 H1 P1) (h : ∀ b, P b → P2 b) : Step G H P2 G1 H1 P1 := ⟨fun b n => a.frame b fun z => n (h b z), a.keep, a.sub, fun b q => (a.new0 b q).imp id (Or.imp id (h b)), fun b q => (a.newf b q).imp (h b) id⟩
section
variable {X : Cx} {x n y : Str} {c : Value} {i j : Nat} {body rest : List Stmt} {np pos pos' p1 p2 p3 : Pos} {b : SFX Exc} {r : SF Exc} {kn : List Str}
end
end
section
variable {TBL : TabL}
structure ClX [TabL] {S : Type} (P : Program) (w : World) (K : PySem.W.Frag) (R : StI S) (mg : Str → Option Value) (base : Heap) (k : Nat) (x : Str) (n : Nat) (F : List D → Option (Except Exc (MO S))) : Prop where
  ex : ∃ (f : Addr) (fd : FuncData) (ps : List Str), FnG P w K mg base (CX P w) k f fd ps (spPX K R mg n F) ∧ Binds K fd ps [] ∧ PySem.W.keepIn K (.ref f) = true ∧ mg x = some (.ref f)
section
variable {S : Type} {X : Cx} {R : StI S} {W : WX} {k j n : Nat} {f : Addr} {fd : FuncData} {ps : List Str} {sp : Sp} {x : Str} {p pos pos2 : Pos} {e : Expr} {es : List Expr} {t : TA} {pn : List Nat}
theorem pe_callGS (F : FnG X.prog X.w X.K X.mg X.base (CX X.prog X.w) k f fd ps sp) (hr : Room k X.A) (hgd : X.A.guards = some []) (hg : Gl X x) (hm : X.mg x = some (.ref f)) (hk : PySem.W.keepIn X.K (.ref f) = true) (hb : Binds X.K fd ps []) (tk : Takes X W)
    (ha : PA X (e :: es) t) (hd : (x == ("__debug__" : Str)) = false := by decide) (he : starEach (e :: es) X.env = (false, eval e X.env) :: starEach es X.env := by rfl) (hpl : (backTo pos (starEach es X.env)).any (·.1) = false := by rfl) :
    PE X (.Call (.Name x p) (e :: es) [] pos) (fun σ H Q => t σ H fun vs H1 => sp vs H1 Q fun cls d H' => W cls d σ H') := by
  refine ⟨fun pins s σ H Q I h => wpAny_Call_Name_kw (ld_glob I hg hm (PySem.W.callWith_K (h₀ := X.base) I.ok.mod.kin hk (thn (ha.run pos pins s σ H _ I h) ?_) he hpl) hd)⟩
  rintro us s1 ⟨vs, H1, I1, r, q⟩
  refine ⟨I1.kIn, ?_⟩
  have hz : (us ++ ([] : List Value)).length = ps.length := by
    rw [List.append_nil, ← r.length]
    exact F.len _ _ _ _ q
  have hbind := hb s1 us I1.kIn hz
  rw [List.append_nil] at hbind
  refine wpAny_call (codeAny_mono (F.run X.A X.stack s1 H1 ⟨us, []⟩ us vs Q _ hr hgd I1.env0 hbind r q) fun res s2 hq => ?_)
  match res, hq with
  | .error er, hq => exact passAt tk σ pins H1 s1 er s2 I1 hq
  | .ok (.ret u), hq => exact I1.after hq
  | .ok .next, hq => exact hq.elim
  | .ok .brk, hq => exact hq.elim
  | .ok .cont, hq => exact hq.elim
def gDropX (n : Nat) (F : List D → Option (Except Exc (MO S))) (fs : XF S (List D)) : SFX S := fun ds => (fs ds).bind fun q => if q.1.length = n then (F q.1).map (fun r => match r with
  | .ok _ => .out (.nx q.2)
  | .error e => .ex e q.2) else none
theorem sx_drop {F : List D → Option (Except Exc (MO S))} {fs : XF S (List D)} (c : ClX X.prog X.w X.K R X.mg X.base j x n F) (hk : j ≤ k) (hr : Room k X.A) (hgd : X.A.guards = some []) (hg : Gl X x) (tk : Takes X W) (ha : PA X (e :: es) (tXA X.K R fs))
    (hs : swapsWith (.Call (.Name x p) (e :: es) [] pos) none pos2.line X.env = pure false := by rfl) (hd : (x == ("__debug__" : Str)) = false := by decide) (he : starEach (e :: es) X.env = (false, eval e X.env) :: starEach es X.env := by rfl) (hpl : (backTo pos (starEach es X.env)).any (·.1) = false := by rfl) :
    PS X (.Expr (.Call (.Name x p) (e :: es) [] pos) pos2) (tSX X.K R pn X.mg W (gDropX n F fs)) := by
  obtain ⟨f, fd, ps, Fn, hb, hkp, hm⟩ := c.ex
  refine PS.imp (ps_expr (pe_callGS (Fn.up hk) hr hgd hg hm hkp hb tk ha hd he hpl) hs) ?_
  rintro Dn σ H ⟨G, F0, ds, o, r, e, k⟩
  unfold gDropX at e
  cases ef : fs ds with
  | none => rw [ef] at e; cases e
  | some q =>
    rw [ef, Option.bind_some] at e
    by_cases hn : q.1.length = n
    · rw [if_pos hn] at e
      cases eF : F q.1 with
      | none => rw [eF] at e; cases e
      | some rr =>
        rw [eF] at e
        refine ⟨G, F0, ds, q.1, q.2, r, ef, fun vs G1 H1 F1 r1 s1 d1 => ?_⟩
        refine ⟨by rw [d1.length]; exact hn, G1, q.1, rr, r1.sub, d1, eF, ?_⟩
        cases rr with
        | ok m =>
          cases e
          intro v G2 H2 fr s2 o2 n2
          obtain ⟨r2, s3, ap⟩ := r1.callee s2
          exact k σ G2 H2 F1 r2 ((s1.trans s3).weaken fun _ z => .inl z) fun _ _ => rfl
        | error x1 =>
          cases e
          intro cls d G2 H2 xi s2
          obtain ⟨r2, s3, ap⟩ := r1.callee s2
          exact k cls d σ G2 H2 F1 xi r2 ((s1.trans s3).weaken fun _ z => .inl z) fun _ _ => rfl
    · rw [if_neg hn] at e; cases e
end
def xIsE (j : Nat) (tab : List (Str × Bool)) : XF Exc D := fun ds => (stAt ds j).bind fun e => (tab.lookup e.nm).map fun b => (.bool b, ds)
def XdAt (H : Hp) (d : Option Addr) : Prop := d = none ∨ ∃ dd fs, d = some dd ∧ H dd = some (.xd fs)
theorem ExcIs.xd {K : PySem.W.Frag} {G H : Hp} {mg : Str → Option Value} {e : Exc} {cls : Value} {d : Option Addr} (h : ExcIs K G mg e cls d) (s : Sub G H) : XdAt H d := by
  obtain ⟨_, h2⟩ := h
  cases hf : e.fl with
  | none => rw [hf] at h2; exact .inl h2
  | some q =>
    rw [hf] at h2
    obtain ⟨dd, v, e1, e2, _⟩ := h2
    exact .inr ⟨dd, _, e1, s _ _ e2⟩
def Kept (X : Cx) (a : Addr) (oe : Obj) : Prop := (a, oe) ∈ X.pn ∨ X.base.get? a = some oe
theorem Kept.get {X : Cx} {a : Addr} {oe : Obj} (h : Kept X a oe) {pins : List (Addr × Obj)} {σ : L2.St} {H : Hp} {s : Shared} (I : Inv X pins σ H s) : s.heap.get? a = some oe := by
  rcases h with h | h
  · exact (I.pin (a, oe) (List.mem_append_left _ h)).1
  · exact (I.bs a oe h).1
section
variable {X : Cx} {a D : Addr} {oe : Obj} {d : Option Addr}
theorem isE_inst (hz : Zc (.ref D) d oe) (hf : ∃ vs, oe.data = .fields vs) (hp : Kept X a oe) {pins : List (Addr × Obj)} {σ : L2.St} {H : Hp} {s : Shared} (I : Inv X pins σ H s) (hd : XdAt H d) : ∃ od, PySem.W.InstAt s.heap a oe D od := by
  have hget := hp.get I
  obtain ⟨vs, hv⟩ := hf
  rcases hd with rfl | ⟨dd, fs, rfl, ea⟩
  · obtain ⟨oc, od, oda, osl⟩ := oe
    obtain ⟨h1, h2⟩ := hz
    dsimp only at h1 h2 hv
    subst h1 h2 hv
    exact ⟨none, hget, rfl, rfl, trivial⟩
  · have hx : ObjOk X.prog X.w H s.heap dd (.xd fs) := I.hok dd _ ea
    obtain ⟨mA, hns, _⟩ := hx
    obtain ⟨od, ho, _⟩ := lookIn_ns hns
    exact ⟨some od, hget, hz.1, by unfold PySem.W.notCls; rw [hv] <;> rfl, by rw [hz.2]; exact ho⟩
theorem kit_exc {K : PySem.W.Frag} {od : Option Obj} (C : ExcC K D) : PySem.W.KitX K (.ref a) (.ref D) (fun h => PySem.W.InstAt h a oe D od) := by
  refine PySem.W.kitx_exc ?_ C.hg C.hk C.hs C.ha C.hn C.ht C.hm
  have h := C.hd
  unfold PySem.W.hasDictIn at h
  cases hc : PySem.W.clsIn K D with
  | some _ => rfl
  | none => rw [hc] at h; cases h
def rIsF (K : PySem.W.Frag) (D a : Addr) (d : Option Addr) : List V → Hp → VK → Prop := fun xs H Q => XdAt H d ∧ rIsE K D a xs H Q
theorem call_isP (C : ExcC X.K D) (hz : Zc (.ref D) d oe) (hf : ∃ vs, oe.data = .fields vs) (hp : Kept X a oe) : CallR X (.builtin "isinstance") (rIsF X.K D a d) := by
  rintro pins s σ H xs us Q I r ⟨hd, c, cv, b, rfl, hcv, e, q⟩
  match us, r with
  | [ux, ut], .cons rx (.cons rt .nil) =>
    obtain rfl : ux = Value.ref a := rx
    obtain rfl := hcv _ rt
    obtain ⟨od, J⟩ := isE_inst hz hf hp I hd
    exact PySem.W.kia_one (kit_exc C) I.kIn J e nofun fun tk => ⟨.bl b, H, I.kept (t' := tk) fun _ _ z => z, rfl, q⟩
end
end
section
variable {TBL : TabL}
structure IsTab (K : PySem.W.Frag) (mg : Str → Option Value) (cs : List Value) (tab : List (Str × Bool)) : Prop where
  all : ∀ q ∈ tab, ∃ D, mg q.1 = some (.ref D) ∧ ExcC K D ∧ PySem.W.kitAny K (.ref D) cs = some q.2
theorem lookup_mem {α β : Type} [BEq α] [LawfulBEq α] : ∀ {l : List (α × β)} {x : α} {y : β}, l.lookup x = some y → (x, y) ∈ l
  | [], _, _, h => by cases h
  | (a, b) :: l, x, y, h => by
    unfold List.lookup at h
    split at h
    · rename_i e
      have e := eq_of_beq e
      cases h
      subst e
      exact .head _
    · exact .tail _ (lookup_mem h)
theorem kit_one {K : PySem.W.Frag} {t c : Value} {b : Bool} (h : PySem.W.kitAny K t [c] = some b) : PySem.W.kitOne K t c = some b := by
  unfold PySem.W.kitAny at h
  split at h
  · rename_i e; rw [e]; exact h
  · rename_i e; rw [e]; exact h
  · cases h
section
variable {X : Cx} {a : Addr} {oe : Obj} {cls : Value} {dx : Option Addr} {j : Nat} {tab : List (Str × Bool)} {e : Expr} {p p2 pos : Pos}
theorem st_known {σ : L2.St} {G H : Hp} {F : Nat → Addr → Prop} {ds ds' : DS Exc} {d : D} {cs : List Value} (T : IsTab X.K X.mg cs tab) (r : RS X.K (R1e X.K X.mg a cls dx) ds σ G H F) (h : xIsE j tab ds = some (d, ds')) :
    ∃ D b, σ[j]? = some (some (V.ref a)) ∧ cls = .ref D ∧ ExcC X.K D ∧ PySem.W.kitAny X.K (.ref D) cs = some b ∧ d = .bool b ∧ ds' = ds ∧ XdAt H dx := by
  unfold xIsE at h
  cases es : stAt ds j with
  | none => rw [es] at h; cases h
  | some s =>
    rw [es, Option.bind_some] at h
    cases el : tab.lookup s.nm with
    | none => rw [el] at h; cases h
    | some b =>
      rw [el] at h
      cases h
      obtain ⟨v, h1, h2⟩ := r.own j _ (stAt_some es)
      obtain ⟨rfl, xi, _⟩ := h2
      have xd := xi.xd r.sub
      obtain ⟨⟨C, hC, rfl⟩, _⟩ := xi
      obtain ⟨D, hD, hE, hK⟩ := T.all _ (lookup_mem el)
      rw [hC] at hD
      cases hD
      exact ⟨C, b, h1, rfl, hE, hK, rfl, rfl, xd⟩
theorem ex_isE {c : V} {cv : Value} {cn : Str} (hcv : ∀ u, RelV c u → u = cv) (T : IsTab X.K X.mg [cv] tab) (hz : Zc cls dx oe) (hf : ∃ vs, oe.data = .fields vs) (hp : Kept X a oe) (hg : Gl X "isinstance") (hm : X.mg "isinstance" = none) (hv : PE X e (tVar j)) (hc : PE X (.Name cn p2) (tC c))
    (he : starEach (e :: [Expr.Name cn p2]) X.env = (false, eval e X.env) :: starEach [Expr.Name cn p2] X.env := by rfl) (he2 : starEach [Expr.Name cn p2] X.env = (false, eval (.Name cn p2) X.env) :: starEach [] X.env := by rfl) (hpl : (backTo pos (starEach [Expr.Name cn p2] X.env)).any (·.1) = false := by rfl) :
    PE X (.Call (.Name "isinstance" p) [e, .Name cn p2] [] pos) (tX X.K (R1e X.K X.mg a cls dx) (xIsE j tab)) := by
  refine ⟨fun pins s σ H Q I h => ?_⟩
  obtain ⟨G, F, ds, d, ds', r, eq, k⟩ := h
  obtain ⟨D, b, h1, rfl, hE, hK, rfl, rfl, xd⟩ := st_known T r eq
  exact (pe_callB (call_isP hE hz hf hp) hg hm (by decide +kernel) (pa_cons hv (pa_cons hc pa_nil he2) he) (by decide) (by decide) he hpl).run pins s σ H Q I ⟨_, h1, xd, c, cv, b, rfl, hcv, kit_one hK, k _ G H F r (.refl r.sub) (.bl b)⟩
def xAndV {S : Type} (fa fb : XF S D) : XF S D := xb fa fun x => xb (xlift (truD x)) fun k => if k then fb else xlift (some x)
def xNotV {S : Type} (fa : XF S D) : XF S D := xb fa fun x => xb (xlift (truD x)) fun k => xlift (some (.bool (!k)))
end
section
variable {P : Program} {w : World} {K : PySem.W.Frag} {mg : Str → Option Value} {base : Heap} {f : Addr} {fd : FuncData} {ps : List Str} {k n : Nat}
def toM2 : MO Exc → Option (MO St2)
  | .d x => some (.d x)
  | .lst xs => some (.lst xs)
  | _ => none
end
end
section
variable {TBL : TabL}
section
variable {X : Cx} {j : Nat} {tab : List (Str × Bool)} {e : Expr} {i : Nat}
end
section
variable {P : Program} {w : World} {K : PySem.W.Frag} {mg : Str → Option Value} {base : Heap} {f : Addr} {fd : FuncData} {ps : List Str} {k n : Nat}
theorem clX_ok {x : Str} {F : List D → Option (Except Exc (MO St2))} (c : ClX P w K R2i mg base k x n F) : Cl P w K mg base k x (spP K R2i n fun as => okX (F as)) := by
  obtain ⟨f, fd, ps, h1, h2⟩ := c.ex
  exact ⟨f, fd, ps, fnX_ok h1, h2⟩
theorem isTab_nil {cs : List Value} : IsTab K mg cs [] := ⟨nofun⟩
theorem isTab_cons {cs : List Value} {x : Str} {b : Bool} {tab : List (Str × Bool)} {D : Addr} (h1 : mg x = some (.ref D)) (h2 : ExcC K D) (h3 : PySem.W.kitAny K (.ref D) cs = some b) (h : IsTab K mg cs tab) : IsTab K mg cs ((x, b) :: tab) := ⟨fun q hq => by
  rcases List.mem_cons.mp hq with rfl | hq
  · exact ⟨D, h1, h2, h3⟩
  · exact h.all q hq⟩
end
end
section
variable {TBL : TabL}
theorem ep_emp {S : Type} {X : Cx} {pos : Pos} : PE X (.Dict [] [] pos) (tP X.K (gC (S := S) (.dict []))) := PE.imp pe_dnewK fun σ H Q ⟨G, ds, d, s, w, e, k⟩ p hp => by
  cases e
  exact k (.ref p) _ _ (Gr.upd s hp) (.emp upd_same)
end
section
variable {TBL : TabL}
section
variable {K : PySem.W.Frag} {t c : Value} {b : Bool} {cs : List Value}
theorem kitCls_ref {C : Addr} (h1 : PySem.W.hasDictIn K C = true) (h2 : PySem.W.typeIn K (.ref C) = some (.type "type")) (h3 : PySem.W.subIn K t (.ref C) = some b) : PySem.W.kitCls K t (.ref C) = some b := by
  obtain ⟨cd, hc, _⟩ := PySem.W.any_some h1
  have e2 : ((PySem.W.clsIn K C).isSome && PySem.W.typeIn K (.ref C) == some (.type "type")) = true := by rw [hc, h2] <;> rfl
  show (if ((PySem.W.clsIn K C).isSome && PySem.W.typeIn K (.ref C) == some (.type "type")) = true then PySem.W.subIn K t (.ref C) else none) = some b
  rw [if_pos e2]
  exact h3
theorem kitCls_ty {T : String} (h1 : PySem.W.kitMeta T = true) (h3 : PySem.W.subIn K t (.type T) = some b) : PySem.W.kitCls K t (.type T) = some b := by
  show (if PySem.W.kitMeta T = true then PySem.W.subIn K t (.type T) else none) = some b
  rw [if_pos h1]
  exact h3
theorem kitOne_of (self : PySem.W.subIn K t t = some true) (hc : PySem.W.kitCls K t c = some b) (hs : PySem.W.subIn K t c = some b) : PySem.W.kitOne K t c = some b := by
  unfold PySem.W.kitOne
  split
  · rename_i e
    have e := eq_of_beq e
    subst e
    rw [self] at hs
    exact hs
  · exact hc
theorem kitOne_ref {C : Addr} (self : PySem.W.subIn K t t = some true) (h1 : PySem.W.hasDictIn K C = true) (h2 : PySem.W.typeIn K (.ref C) = some (.type "type")) (h3 : PySem.W.subIn K t (.ref C) = some b) : PySem.W.kitOne K t (.ref C) = some b := kitOne_of self (kitCls_ref h1 h2 h3) h3
theorem kitOne_ty {T : String} (self : PySem.W.subIn K t t = some true) (h1 : PySem.W.kitMeta T = true) (h3 : PySem.W.subIn K t (.type T) = some b) : PySem.W.kitOne K t (.type T) = some b := kitOne_of self (kitCls_ty h1 h3) h3
theorem kitAny_nil : PySem.W.kitAny K t [] = some false := rfl
theorem kitAny_miss (h : PySem.W.kitOne K t c = some false) (r : PySem.W.kitAny K t cs = some b) : PySem.W.kitAny K t (c :: cs) = some b := by
  unfold PySem.W.kitAny
  rw [h]
  exact r
theorem kitAny_hit (h : PySem.W.kitOne K t c = some true) : PySem.W.kitAny K t (c :: cs) = some true := by
  unfold PySem.W.kitAny
  rw [h]
end
end
section
variable {TBL : TabL}
section
variable {X : Cx} {e : Expr} {es : List Expr} {ta : TA} {p1 p2 pos : Pos} {x : Str} {M : Addr} {mc : Value}
end
end
section
variable {TBL : TabL}
def spInit (K : PySem.W.Frag) (f : Str) : Sp := fun vs H Q _ => ∃ (a C : Addr) (v : V), vs = [.ref a, v] ∧ OexC K C ∧ PySem.W.findIn K (.ref C) f = some none ∧ H a = some (exo a C none) ∧
  ∀ dx, H dx = none → dx ≠ a → Q .non (upd (upd H dx (exd dx [(f, v)])) a (exo a C (some dx)))
structure ExcF (P : Program) (w : World) (K : PySem.W.Frag) (mg : Str → Option Value) (base : Heap) (k : Nat) (x f : Str) : Prop where
  ex : ∃ (C fI : Addr) (fd : FuncData) (ps : List Str), OexC K C ∧ mg x = some (.ref C) ∧ PySem.W.findIn K (.ref C) "__init__" = some (some (.ref fI)) ∧ PySem.W.typeIn K (.ref fI) = some (.type "function") ∧
    FnOk P w K mg base CX0 k fI fd ps (spInit K f) ∧ Binds K fd ps [] ∧ PySem.W.findIn K (.ref C) f = some none
structure FldT (K : PySem.W.Frag) (mg : Str → Option Value) (f x : Str) : Prop where
  ex : ∃ C, mg x = some (.ref C) ∧ PySem.W.findIn K (.ref C) "__getattribute__" = some (some (.builtin "BaseException.__getattribute__")) ∧ PySem.W.findIn K (.ref C) "__getattr__" = some none ∧
    PySem.W.subIn K (.ref C) (.type "BaseException") = some true ∧ PySem.W.hasDictIn K C = true ∧ PySem.W.findIn K (.ref C) f = some none
def gRaiseF {S : Type} (x f : Str) (fs : XF S (List D)) : SFX S := fun ds => (fs ds).bind fun q => match q.1 with
  | [y] => some (.ex ⟨x, some (f, y)⟩ q.2)
  | _ => none
section
variable {S : Type} {X : Cx} {R : StI S} {pn : List Nat} {W : WX} {k j : Nat}
end
section
variable {X : Cx} {a : Addr} {oe : Obj} {cls : Value} {dx : Option Addr} {j : Nat} {kn : List Str} {f : Str} {e : Expr} {pos : Pos}
end
end
section
variable {TBL : TabL}
def xtNoneE (j : Nat) : XF Exc Bool := fun ds => match ds[j]? with
  | some (some (.st _)) => some (false, ds)
  | some (some (.d .none)) => some (true, ds)
  | _ => none
section
variable {X : Cx} {a : Addr} {cls : Value} {dx : Option Addr} {j : Nat} {kn : List Str} {f : Str} {e : Expr} {pos p2 : Pos} {i : Nat}
theorem xt_noneE (hv : PE X e (tVar j)) : PT X (.Compare e [.Is] [.Constant .none i p2] pos) (tXT X.K (R1e X.K X.mg a cls dx) (xtNoneE j)) :=
  PT.imp (pt_cmpR op_isN hv pe_non (by rfl)) fun σ H Q ⟨G, F, ds, b, ds', rs, e, k⟩ => by
    unfold xtNoneE at e
    split at e
    · rename_i s es
      cases e
      obtain ⟨v, h1, rfl, _⟩ := rs.own j _ es
      exact ⟨_, h1, rfl, _, rfl, k G H F rs (.refl rs.sub)⟩
    · rename_i es
      cases e
      obtain ⟨v, h1, h2, _⟩ := rs.own j _ es
      cases h2
      exact ⟨_, h1, rfl, _, rfl, k G H F rs (.refl rs.sub)⟩
    · cases e
theorem xt_noneE0 (hv : PE X e (tVar j)) : PT X (.Compare e [.Is] [.Constant .none i p2] pos) (tXT X.K R0e (xtNoneE j)) :=
  PT.imp (pt_cmpR op_isN hv pe_non (by rfl)) fun σ H Q ⟨G, F, ds, b, ds', rs, e, k⟩ => by
    unfold xtNoneE at e
    split at e
    · rename_i s es
      obtain ⟨v, h1, h2⟩ := rs.own j _ es
      exact False.elim h2
    · rename_i es
      cases e
      obtain ⟨v, h1, h2, _⟩ := rs.own j _ es
      cases h2
      exact ⟨_, h1, rfl, _, rfl, k G H F rs (.refl rs.sub)⟩
    · cases e
end
end
section
variable {TBL : TabL}
def gTryC {S : Type} (kn : List Str) (b : SFX S) (h : SF S) : SF S := fun ds => (b ds).bind fun o => match o with
  | .out o => some o
  | .ex e ds' => if e.nm ∈ kn then h ds' else none
section
variable {S : Type} {X : Cx} {R : StI S} {pn : List Nat} {x : Str} {c : Value} {body suite : List Stmt} {b0 : Stmt} {np pos pos' : Pos} {b : SFX S} {h : SF S} {kn : List Str}
end
end
section
variable {TBL : TabL}
theorem funFrames_rebase {h base base' : Heap} : ∀ {l : List Env}, h.FunFrames base l → (∀ L ∈ frs l, base'.get? L = none) → h.FunFrames base' l
  | [], _, _ => trivial
  | env :: rest, ⟨h1, ⟨L, o, h2, h3, h4, h5⟩, h6⟩, n => ⟨h1, ⟨L, o, h2, n L (by unfold frs; rw [List.filterMap_cons_some h2]; exact List.mem_cons_self), h4, h5⟩, funFrames_rebase h6 fun M hM => n M (by unfold frs at hM ⊢; rw [List.filterMap_cons_some h2]; exact List.mem_cons_of_mem _ hM)⟩
open Classical in
noncomputable def keepHp (l : List Addr) (H : Hp) : Hp := fun b => if b ∈ l then some (.lst []) else H b
theorem keepHp_none {l : List Addr} {H : Hp} {b : Addr} : keepHp l H b = none ↔ b ∉ l ∧ H b = none := by
  unfold keepHp
  by_cases h : b ∈ l
  · rw [if_pos h]; exact ⟨nofun, fun z => absurd h z.1⟩
  · rw [if_neg h]; exact ⟨fun z => ⟨h, z⟩, fun z => z.2⟩
theorem env0_kept {X : Cx} {a : Addr} {oe : Obj} (hp : Kept X a oe) {pins : List (Addr × Obj)} {σ : L2.St} {H : Hp} {s : Shared} (I : Inv X pins σ H s) :
    ∃ base, X.K.In base ∧ base.Ns mainGlobals X.mg ∧ base.get? a = some oe ∧ Env0 X.prog X.w X.K X.mg base X.A X.stack s H := by
  rcases hp with hp | hb
  · obtain ⟨p1, p2, p3, p4, _⟩ := I.pin (a, oe) (List.mem_append_left _ hp)
    have nob : ∀ b o, X.base.get? b = some o → b ∉ frs X.stack := fun b o e hm => by
      have := (I.stack.mem hm).1
      rw [e] at this
      cases this
    have get : ∀ {b o}, s.heap.get? b = some o → H b = none → b ∉ frs X.stack → (hidT s.heap (keepHp (frs X.stack) H)).get? b = some o := fun q n m => hidT_get q (keepHp_none.mpr ⟨m, n⟩)
    have old : ∀ {b o}, X.base.get? b = some o → (hidT s.heap (keepHp (frs X.stack) H)).get? b = some o := fun {b o} e => get (I.bs b o e).1 (I.bs b o e).2 (nob b o e)
    have na : a ∉ frs X.stack := by
      rcases I.ok.stk with e | ⟨e, f⟩
      · rw [e]; exact p4
      · rw [e]
        intro hm
        unfold frs at hm
        rw [List.filterMap_cons_some f] at hm
        rcases List.mem_cons.mp hm with z | z
        · exact p3 z
        · exact p4 z
    have ns : ∀ {b : Addr} {m : Str → Option Value}, X.base.Ns b m → (hidT s.heap (keepHp (frs X.stack) H)).Ns b m := fun {b m} ⟨o, es, ep, q, d, rest⟩ => ⟨o, es, ep, old q, d, rest⟩
    obtain ⟨kin, glob, ⟨mb, b1, b2⟩, ⟨c, l1, l2⟩⟩ := I.ok.mod
    have kin' : X.K.In (hidT s.heap (keepHp (frs X.stack) H)) := fun b o q => old (kin b o q)
    refine ⟨_, kin', ns glob, get p1 p2 na, ⟨I.ok.frames, ⟨kin', ns glob, ⟨mb, ns b1, b2⟩, ⟨c, ns l1, l2⟩⟩, fun b o e => ?_, Nat.le_of_eq (hidT_size _ _), funFrames_rebase I.stack fun L hL => ?_, I.stkFree, I.hok, I.bare⟩⟩
    · obtain ⟨e1, e2⟩ := of_hidT e
      exact ⟨e1, (keepHp_none.mp e2).2⟩
    · cases e : (hidT s.heap (keepHp (frs X.stack) H)).get? L with
      | none => rfl
      | some o => exact absurd hL (keepHp_none.mp (of_hidT e).2).1
  · exact ⟨X.base, I.ok.mod.kin, I.ok.mod.glob, hb, I.env0⟩
theorem ex_notV {S : Type} {X : Cx} {R : StI S} {e : Expr} {pos : Pos} {fa : XF S D} (ha : PE X e (tX X.K R fa)) : PE X (.UnaryOp .Not e pos) (tX X.K R (xNotV fa)) := PE.imp (pe_notT ha) fun σ H Q ⟨G, F, ds, d, ds', rs, e, k⟩ => by
  obtain ⟨x, ds1, ea, e⟩ := xb_some e
  obtain ⟨t, ds2, et, e3⟩ := xb_some e
  obtain ⟨eg, e9⟩ := xlift_some et
  subst e9
  obtain ⟨e1, e9⟩ := xlift_some e3
  subst e9
  cases e1
  exact ⟨G, F, ds, x, _, rs, ea, fun v G1 H1 F1 r1 s1 d1 => ⟨t, truD_ok r1.sub d1 eg, k _ G1 H1 F1 r1 s1 (.bl _)⟩⟩
structure ClE [TabL] (P : Program) (w : World) (K : PySem.W.Frag) (mg : Str → Option Value) (k : Nat) (x : Str) (F : Exc → List D → Option (MO Exc × Exc)) : Prop where
  ex : ∃ (f : Addr) (fd : FuncData) (ps : List Str), (∀ (base : Heap) (a : Addr) (oe : Obj) (cls : Value) (d : Option Addr), K.In base → base.Ns mainGlobals mg → base.get? a = some oe → Zc cls d oe → (∃ vs, oe.data = .fields vs) →
    FnG P w K mg base CX0 k f fd ps (spS K (R1e K mg a cls d) 1 F)) ∧ Binds K fd ps [] ∧ PySem.W.keepIn K (.ref f) = true ∧ mg x = some (.ref f)
def xCallE (j : Nat) (F : Exc → List D → Option (MO Exc × Exc)) : XF Exc (MO Exc) := fun ds => (stAt ds j).bind fun e => (F e []).bind fun q => match q.1 with
  | .d x => some (.d x, ds)
  | .lst xs => some (.lst xs, ds)
  | _ => none
section
variable {X : Cx} {a : Addr} {oe : Obj} {cls : Value} {dx : Option Addr} {j k i : Nat} {x : Str} {e : Expr} {p pos : Pos} {F : Exc → List D → Option (MO Exc × Exc)}
theorem eo_callE (c : ClE X.prog X.w X.K X.mg i x F) (hk : i ≤ k) (hr : Room k X.A) (hgd : X.A.guards = some []) (hg : Gl X x) (hz : Zc cls dx oe) (hf : ∃ vs, oe.data = .fields vs) (hp : Kept X a oe) (hv : PE X e (tVar j))
    (hd : (x == ("__debug__" : Str)) = false := by decide) (he : starEach [e] X.env = (false, eval e X.env) :: starEach [] X.env := by rfl) (hpl : (backTo pos (starEach [] X.env)).any (·.1) = false := by rfl) :
    PE X (.Call (.Name x p) [e] [] pos) (tO X.K (R1e X.K X.mg a cls dx) (xCallE j F)) := by
  obtain ⟨f, fd, ps, Fn, hb, hkp, hm⟩ := c.ex
  refine ⟨fun pins s σ H Q I h => wpAny_Call_Name_kw (ld_glob I hg hm (PySem.W.callWith_K (h₀ := X.base) I.ok.mod.kin hkp (thn ((pa_cons hv pa_nil he).run pos pins s σ H (fun vs H1 => vs = [.ref a] ∧ H1 = H) I ?_) ?_) he hpl) hd)⟩
  · obtain ⟨G, F0, ds, m, ds', r, e, kk⟩ := h
    unfold xCallE at e
    cases es : stAt ds j with
    | none => rw [es] at e; cases e
    | some ex =>
      obtain ⟨v, h1, rfl, _⟩ := r.own j _ (stAt_some es)
      exact ⟨_, h1, rfl, rfl⟩
  · rintro us s1 ⟨vs, H1, I1, rv, rfl, rfl⟩
    refine ⟨I1.kIn, ?_⟩
    obtain ⟨base, b1, b2, b3, env⟩ := env0_kept hp I1
    have F1 := (Fn base a oe cls dx b1 b2 b3 hz hf).up hk
    obtain ⟨G, F0, ds, m, ds', r, e, kk⟩ := h
    unfold xCallE at e
    cases es : stAt ds j with
    | none => rw [es] at e; cases e
    | some ex =>
      rw [es, Option.bind_some] at e
      cases eF : F ex [] with
      | none => rw [eF] at e; cases e
      | some q =>
        rw [eF, Option.bind_some] at e
        obtain ⟨m0, ex2⟩ := q
        cases m0 with
        | d y =>
          cases e
          obtain ⟨v, h1, rfl, xi, nf⟩ := r.own j _ (stAt_some es)
          have q : spS X.K (R1e X.K X.mg a cls dx) 1 F [.ref a] H1 Q E0 := by
            refine ⟨rfl, G, fun _ => False, .ref a, [], ex, [], .d y, ex2, rfl, r.sub, ⟨rfl, xi, fun _ z => z⟩, fun _ z => z.elim, .nil, eF, fun v G2 H2 fp fr s2 rel o h1 h2 => ?_⟩
            obtain ⟨r2, s3, ap⟩ := r.callee s2
            exact kk v G2 H2 F0 (fun _ => False) r2 (s3.weaken fun b hb => hb.elim .inl False.elim) ⟨o.1, fun _ z => z⟩ (fun _ z => z.elim) fun _ z => z.elim
          have hzl : (us ++ ([] : List Value)).length = ps.length := by
            rw [List.append_nil, ← rv.length]
            exact F1.len _ _ _ _ q
          have hbind := hb s1 us I1.kIn hzl
          rw [List.append_nil] at hbind
          refine wpAny_call (codeAny_mono (F1.run X.A X.stack s1 H1 ⟨us, []⟩ us [.ref a] Q _ hr hgd env hbind rv q) fun res s2 hq => ?_)
          match res, hq with
          | .error er, hq => exact hq.elim
          | .ok (.ret u), hq => exact I1.after hq
          | .ok .next, hq => exact hq.elim
          | .ok .brk, hq => exact hq.elim
          | .ok .cont, hq => exact hq.elim
        | lst y =>
          cases e
          obtain ⟨v, h1, rfl, xi, nf⟩ := r.own j _ (stAt_some es)
          have q : spS X.K (R1e X.K X.mg a cls dx) 1 F [.ref a] H1 Q E0 := by
            refine ⟨rfl, G, fun _ => False, .ref a, [], ex, [], .lst y, ex2, rfl, r.sub, ⟨rfl, xi, fun _ z => z⟩, fun _ z => z.elim, .nil, eF, fun v G2 H2 fp fr s2 rel o h1 h2 => ?_⟩
            obtain ⟨r2, s3, ap⟩ := r.callee s2
            exact kk v G2 H2 F0 fr r2 (s3.weaken fun b hb => hb.elim .inl fun z => .inr (.inr z)) o (fun b hb => ap b (.inr hb)) fun b hb => h2 b (.inr hb)
          have hzl : (us ++ ([] : List Value)).length = ps.length := by
            rw [List.append_nil, ← rv.length]
            exact F1.len _ _ _ _ q
          have hbind := hb s1 us I1.kIn hzl
          rw [List.append_nil] at hbind
          refine wpAny_call (codeAny_mono (F1.run X.A X.stack s1 H1 ⟨us, []⟩ us [.ref a] Q _ hr hgd env hbind rv q) fun res s2 hq => ?_)
          match res, hq with
          | .error er, hq => exact hq.elim
          | .ok (.ret u), hq => exact I1.after hq
          | .ok .next, hq => exact hq.elim
          | .ok .brk, hq => exact hq.elim
          | .ok .cont, hq => exact hq.elim
        | _ => cases e
end
end
section
variable {TBL : TabL}
abbrev XE (S : Type) := DS S → Option (Except Exc D × DS S)
section
variable {S : Type} {K : PySem.W.Frag} {R : StI S} {mg : Str → Option Value} {W : WX}
def XEE [TabL] (K : PySem.W.Frag) (R : StI S) (mg : Str → Option Value) (W : WX) (σ : L2.St) (G H : Hp) (P : Addr → Prop) (ds' : DS S) (Q : VK) : Except Exc D → Prop
  | .ok d => ∀ v G' H' F', RS K R ds' σ G' H' F' → Step G H P G' H' (fun a => ∃ i, F' i a) → Den K G' v d → Q v H'
  | .error x => ∀ cls dd G' H' F', ExcIs K G' mg x cls dd → RS K R ds' σ G' H' F' → Step G H P G' H' (fun a => ∃ i, F' i a) → W cls dd σ H'
def tXE [TabL] (K : PySem.W.Frag) (R : StI S) (mg : Str → Option Value) (W : WX) (f : XE S) : TE := fun σ H Q => ∃ G F ds r ds', RS K R ds σ G H F ∧ f ds = some (r, ds') ∧ XEE K R mg W σ G H (fun a => ∃ i, F i a) ds' Q r
theorem XEE.shift {σ : L2.St} {G H G1 H1 : Hp} {P P1 : Addr → Prop} {ds' : DS S} {Q : VK} {r : Except Exc D} (h : XEE K R mg W σ G H P ds' Q r) (s : Step G H P G1 H1 P1) : XEE K R mg W σ G1 H1 P1 ds' Q r := by
  cases r with
  | ok d => exact fun v G' H' F' r t dn => h v G' H' F' r (s.trans t) dn
  | error x => exact fun cls dd G' H' F' xi r t => h cls dd G' H' F' xi r (s.trans t)
def exD : Except Exc (MO S) → Option (Except Exc D)
  | .ok (.d x) => some (.ok x)
  | .ok (.lst xs) => some (.ok (.list xs))
  | .ok _ => none
  | .error e => some (.error e)
def eCall (n : Nat) (F : List D → Option (Except Exc (MO S))) (fs : XF S (List D)) : XE S := fun ds => (fs ds).bind fun q => if q.1.length = n then (F q.1).bind fun r => (exD r).map fun y => (y, q.2) else none
def gAsgE (i : Nat) (f : XE S) : SFX S := fun ds => (f ds).map fun q => match q.1 with
  | .ok d => .out (.nx (q.2.set i (some (.d d))))
  | .error e => .ex e q.2
end
section
variable {S : Type} {X : Cx} {R : StI S} {W : WX} {k j n i : Nat} {x : Str} {p pos pos2 : Pos} {e a b c : Expr} {es : List Expr} {pn : List Nat} {fa fb : XE S} {id : String} {rr : List V → Hp → VK → Prop} {g : List D → Option D}
theorem xe_call {F : List D → Option (Except Exc (MO S))} {fs : XF S (List D)} (c : ClX X.prog X.w X.K R X.mg X.base j x n F) (hk : j ≤ k) (hr : Room k X.A) (hgd : X.A.guards = some []) (hg : Gl X x) (tk : Takes X W) (ha : PA X (e :: es) (tXA X.K R fs))
    (hd : (x == ("__debug__" : Str)) = false := by decide) (he : starEach (e :: es) X.env = (false, eval e X.env) :: starEach es X.env := by rfl) (hpl : (backTo pos (starEach es X.env)).any (·.1) = false := by rfl) :
    PE X (.Call (.Name x p) (e :: es) [] pos) (tXE X.K R X.mg W (eCall n F fs)) := by
  obtain ⟨f, fd, ps, Fn, hb, hkp, hm⟩ := c.ex
  refine PE.imp (pe_callGS (Fn.up hk) hr hgd hg hm hkp hb tk ha hd he hpl) ?_
  rintro σ H Q ⟨G, F0, ds, r, ds', rs, e, kk⟩
  unfold eCall at e
  cases ef : fs ds with
  | none => rw [ef] at e; cases e
  | some q =>
    rw [ef, Option.bind_some] at e
    by_cases hn : q.1.length = n
    · rw [if_pos hn] at e
      cases eF : F q.1 with
      | none => rw [eF] at e; cases e
      | some r0 =>
        rw [eF, Option.bind_some] at e
        cases ed : exD r0 with
        | none => rw [ed] at e; cases e
        | some y =>
        rw [ed] at e
        cases e
        refine ⟨G, F0, ds, q.1, q.2, rs, ef, fun vs G1 H1 F1 r1 s1 d1 => ?_⟩
        refine ⟨by rw [d1.length]; exact hn, G1, q.1, r0, r1.sub, d1, eF, ?_⟩
        cases r0 with
        | ok m =>
          intro v G2 H2 fr s2 o2 n2
          obtain ⟨r2, s3, ap⟩ := r1.callee s2
          cases m with
          | d z =>
            cases ed
            exact kk v G2 H2 F1 r2 ((s1.trans s3).weaken fun _ z => .inl z) o2.1
          | lst xs =>
            cases ed
            obtain ⟨p0, vs2, rfl, hq, z, dd, fq⟩ := o2
            have hG : G2 p0 = none := n2 p0 ((fq p0).mpr rfl)
            have hH : H1 p0 = none := (s2.newf p0 ((fq p0).mpr rfl)).elim False.elim fun z => z
            have gr := (step_gr s2).freeze hG hH hq
            exact kk (.ref p0) (upd G2 p0 (.lst vs2)) H2 F1 (r1.grow gr) (s1.trans gr.step) (.lst upd_same z (dd.mono fun b u e => by rw [upd_ne (ne_of_none e hG)]; exact e))
          | st s => cases ed
          | scr ns => cases ed
          | dic kvs => cases ed
          | lk kvs => cases ed
          | dp z => cases ed
          | obj y fs => cases ed
        | error x1 =>
          cases ed
          intro cls d G2 H2 xi s2
          obtain ⟨r2, s3, ap⟩ := r1.callee s2
          exact kk cls d G2 H2 F1 xi r2 ((s1.trans s3).weaken fun _ z => .inl z)
    · rw [if_neg hn] at e; cases e
end
section
variable {X : Cx} {x n : Str} {c : Value} {i : Nat} {body suite : List Stmt} {b0 : Stmt} {np pos pos' : Pos} {b : SFX Exc} {h : SF Exc} {kn : List Str}
end
end
section
variable {TBL : TabL}
abbrev XEL (S : Type) := DS S → Option (Except Exc (List D) × DS S)
section
variable {S : Type} {K : PySem.W.Frag} {R : StI S} {mg : Str → Option Value} {W : WX}
end
section
variable {S : Type} {X : Cx} {R : StI S} {W : WX} {k j n i : Nat} {x : Str} {p pos pos2 : Pos} {e : Expr} {es : List Expr} {pn : List Nat} {fa : XE S} {fl : XEL S}
end
end
section
variable {TBL : TabL}
section
variable {S : Type} {K : PySem.W.Frag} {R : StI S} {mg : Str → Option Value} {W : WX} {pn : List Nat} {Dn : Ends} {σ : L2.St} {H : Hp} {g : SFX S}
def tXIE [TabL] (K : PySem.W.Frag) (R : StI S) (mg : Str → Option Value) (W : WX) (f : XEL S) : TI := fun σ H Q => ∃ G F ds r ds', RS K R ds σ G H F ∧ f ds = some (r, ds') ∧ match r with
  | .ok xs => ∀ J G' H' F', RS K R ds' σ G' H' F' → Step G H (fun a => ∃ i, F i a) G' H' (fun a => ∃ i, F' i a) → ItD false K J xs G' → Q J H'
  | .error x => ∀ cls dd G' H' F', ExcIs K G' mg x cls dd → RS K R ds' σ G' H' F' → Step G H (fun a => ∃ i, F i a) G' H' (fun a => ∃ i, F' i a) → W cls dd σ H'
def forRunX (t : D → Option (List (Nat × D))) (body : SFX S) : List D → SFX S
  | [], ds => some (.out (.nx ds))
  | x :: xs, ds => (t x).bind fun as => (body (setD ds as)).bind fun o => match o with
    | .out (.nx ds') => forRunX t body xs ds'
    | .out (.ct ds') => forRunX t body xs ds'
    | .out (.bk ds') => some (.out (.nx ds'))
    | .out (.rt m ds') => some (.out (.rt m ds'))
    | .ex e ds' => some (.ex e ds')
def gForX (src : XEL S) (t : D → Option (List (Nat × D))) (body : SFX S) : SFX S := fun ds => (src ds).bind fun p => match p.1 with
  | .ok xs => forRunX t body xs p.2
  | .error e => some (.ex e p.2)
def eL (f : XF S (List D)) : XEL S := fun ds => (f ds).map fun q => (.ok q.1, q.2)
theorem s_forX {src : XEL S} {t : D → Option (List (Nat × D))} {tg : TG} (ht : TGD false K tg t) (hp : ∀ d as, t d = some as → ∀ p ∈ as, p.1 ∉ pn) (w : tSX K R pn mg W (gForX src t g) Dn σ H) : tFor (tXIE K R mg W src) tg (tSX K R pn mg W g) Dn σ H := by
  obtain ⟨G, F, ds, o, r, e, k⟩ := w
  unfold gForX at e
  cases ef : src ds with
  | none => rw [ef] at e; cases e
  | some p =>
    rw [ef] at e
    simp only [Option.bind_some] at e
    obtain ⟨r0, ds1⟩ := p
    refine ⟨G, F, ds, r0, ds1, r, ef, ?_⟩
    cases r0 with
    | error x1 =>
      cases e
      exact fun cls dd G' H' F' xi r' s' => k cls dd σ G' H' F' xi r' s' fun _ _ => rfl
    | ok xs =>
    intro J G1 H1 F1 r1 s1 it
    refine ⟨fun i m σc Hc => m = xs.length - i ∧ i ≤ xs.length ∧ ∃ Gc Fc dsc, RS K R dsc σc Gc Hc Fc ∧ Step G H (fun a => ∃ j, F j a) Gc Hc (fun a => ∃ j, Fc j a) ∧ Same G1 Gc ∧ (∀ j ∈ pn, σc[j]? = σ[j]?) ∧ forRunX t g (xs.drop i) dsc = some o,
      ⟨xs.length, rfl, Nat.zero_le _, G1, F1, ds1, r1, s1, Same.refl _, fun _ _ => rfl, by simpa using e⟩, ?_⟩
    rintro i m σc Hc ⟨rfl, hi, Gc, Fc, dsc, rc, sc, gc, pc, ec⟩
    by_cases hlt : i < xs.length
    · refine .inr ⟨it.go i Hc (subT gc rc.sub) hlt, fun σ' H' => ∃ m', m' < xs.length - i ∧ (m' = xs.length - (i + 1) ∧ i + 1 ≤ xs.length ∧ ∃ Gc Fc dsc, RS K R dsc σ' Gc H' Fc ∧ Step G H (fun a => ∃ j, F j a) Gc H' (fun a => ∃ j, Fc j a) ∧ Same G1 Gc ∧ (∀ j ∈ pn, σ'[j]? = σ[j]?) ∧ forRunX t g (xs.drop (i + 1)) dsc = some o), fun σ' H' z => z, fun x H' y => ?_⟩
      obtain ⟨d, hd, grow⟩ := it.yld i Hc x H' (subT gc rc.sub) hlt y
      obtain ⟨Ga, ga, dx⟩ := grow Gc gc rc.sub
      have ra := rc.grow ga
      have hdrop : xs.drop i = d :: xs.drop (i + 1) := by
        rw [List.drop_eq_getElem_cons hlt]
        rw [List.getElem?_eq_getElem hlt] at hd
        cases hd
        rfl
      rw [hdrop] at ec
      unfold forRunX at ec
      cases et : t d with
      | none => rw [et] at ec; cases ec
      | some as =>
        rw [et] at ec
        simp only [Option.bind_some] at ec
        cases eb : g (setD dsc as) with
        | none => rw [eb] at ec; cases ec
        | some o1 =>
          rw [eb] at ec
          simp only [Option.bind_some] at ec
          refine ht x d as σc Ga H' _ ga.sub dx et fun ws aw => ?_
          obtain ⟨F2, r2, u2⟩ := ra.setAll aw
          have sa : Step G H (fun a => ∃ j, F j a) Ga H' (fun a => ∃ j, F2 j a) := (sc.trans ga.step).weaken u2
          have pa : ∀ j ∈ pn, (setAll σc ws)[j]? = σ[j]? := fun j hj => by
            rw [setAll_out (own := (as.map (·.1))) (fun z => ?_) (asgV_slots aw fun q hq => List.mem_map_of_mem hq)]
            · exact pc j hj
            · obtain ⟨q, hq, rfl⟩ := List.mem_map.mp z
              exact hp d as et q hq hj
          refine ⟨Ga, F2, setD dsc as, o1, r2, eb, ?_⟩
          have again : ∀ ds', forRunX t g (xs.drop (i + 1)) ds' = some o → After K R pn (setAll σc ws) Ga H' (fun a => ∃ j, F2 j a) ds' (fun σ' H' => ∃ m', m' < xs.length - i ∧ (m' = xs.length - (i + 1) ∧ i + 1 ≤ xs.length ∧ ∃ Gc Fc dsc, RS K R dsc σ' Gc H' Fc ∧ Step G H (fun a => ∃ j, F j a) Gc H' (fun a => ∃ j, Fc j a) ∧ Same G1 Gc ∧ (∀ j ∈ pn, σ'[j]? = σ[j]?) ∧ forRunX t g (xs.drop (i + 1)) dsc = some o)) :=
            fun ds' e' σ' G' H2 F' r' s' p' => ⟨xs.length - (i + 1), by omega, rfl, hlt, G', F', ds', r', sa.trans s', gc.trans (ga.keep.trans s'.keep), fun j hj => (p' j hj).trans (pa j hj), e'⟩
          cases o1 with
          | ex x1 ds' => cases ec; exact XEnd.shift (Dn := Dn) (o := .ex x1 ds') k sa pa
          | out o2 =>
            cases o2 with
            | nx ds' => exact again ds' ec
            | ct ds' => exact again ds' ec
            | bk ds' => cases ec; exact After.shift k sa pa
            | rt m ds' => cases ec; exact SEnd.shift (Dn := Dn) (o := .rt m ds') k sa pa
    · have e' : i = xs.length := by omega
      subst e'
      rw [List.drop_length] at ec
      cases ec
      exact .inl ⟨it.stop _ Hc (subT gc rc.sub) (Nat.le_refl _) (Nat.le_refl _), k σc Gc Hc Fc rc sc pc⟩
end
section
variable {S : Type} {X : Cx} {R : StI S} {W : WX} {pn : List Nat} {tg iter : Expr} {body : List Stmt} {pos : Pos} {fa : XE S} {g : SFX S}
theorem xi_L {f : XF S (List D)} (h : PI X tg iter (tXI false X.K R f)) : PI X tg iter (tXIE X.K R X.mg W (eL f)) := PI.imp h fun σ H J ⟨G, F, ds, r, ds', rs, e, k⟩ => by
  unfold eL at e
  cases ef : f ds with
  | none => rw [ef] at e; cases e
  | some q =>
    rw [ef] at e
    cases e
    exact ⟨G, F, ds, q.1, q.2, rs, ef, k⟩
theorem sx_for {src : XEL S} {t : D → Option (List (Nat × D))} {gt : TG} (po : PassesOwn (model X.prog X.w) X.A X.env X.xe) (ht : TGD false X.K gt t) (hp : ∀ d as, t d = some as → ∀ p ∈ as, p.1 ∉ pn) (hc : X.calm = true) (hi : PI X tg iter (tXIE X.K R X.mg W src)) (hg : PG X tg gt) (hb : PSs X body (tSX X.K R pn X.mg W g))
    (hs : ∀ x, foldedSetIterable iter X.env x = pure x := by intro _; rfl) : PS X (.For tg iter body [] pos) (tSX X.K R pn X.mg W (gForX src t g)) := PS.imp (ps_for po hc hi hg hb hs) fun _ _ _ => s_forX ht hp
end
end
section
variable {TBL : TabL}
theorem eo_callE0 {X : Cx} {j : Nat} {F : Exc → List D → Option (MO Exc × Exc)} {e : Expr} : PE X e (tO X.K R0e (xCallE j F)) := ⟨fun pins s σ H Q I ⟨G, F0, ds, d, ds', r, eq, k⟩ => by
  unfold xCallE at eq
  cases es : stAt ds j with
  | none => rw [es] at eq; cases eq
  | some s =>
    obtain ⟨v, h1, h2⟩ := r.own j _ (stAt_some es)
    exact False.elim h2⟩
end
section
variable {TBL : TabL}
abbrev XEM (S : Type) := DS S → Option (Except Exc (MO S) × DS S)
section
variable {S : Type} {K : PySem.W.Frag} {R : StI S} {mg : Str → Option Value} {W : WX}
end
section
variable {S : Type} {X : Cx} {R : StI S} {W : WX} {k j n i : Nat} {x : Str} {p pos : Pos} {e : Expr} {es : List Expr} {pn : List Nat} {fa : XEM S}
end
end
section
variable {TBL : TabL}
section
variable {K : PySem.W.Frag} {G H : Hp}
theorem RowsAt.tail {q : Addr} {ps : List Addr} {r : List (Option Int)} {xss : List (List (Option Int))} (h : RowsAt H (q :: ps) (r :: xss)) : RowsAt H ps xss :=
  ⟨by simpa using h.1, fun l q r h1 h2 => h.2 (l + 1) q r (by simpa using h1) (by simpa using h2)⟩
end
section
variable {K : PySem.W.Frag} {ds : DS2} {σ : L2.St} {G H : Hp} {F : Nat → Addr → Prop} {j : Nat} {xss : List (List (Option Int))}
open Classical in
variable {X : Cx} {c : Expr}
end
section
variable {S : Type} {X : Cx} {K : PySem.W.Frag} {R : StI S} {j k n : Nat} {x : Str} {p pos : Pos} {e : Expr} {es : List Expr}
variable {src : DS S → Option (List D)} {own : List Nat} {t : D → Option (List (Nat × D))} {g : DS S → Option (List D)} {tg : TG}
end
section
variable {X : Cx} {elt tg iter e : Expr} {scope : Scope} {own : List (Str × Nat)} {pos : Pos} {t : D → Option (List (Nat × D))} {gt : TG}
end
end
section
variable {TBL : TabL}
section
variable {X : Cx} {pn : List Nat} {tg iter o : Expr} {i j : Nat} {pos bpos apos cpos cp : Pos}
theorem Sub.off [TabL] {G H H' : Hp} (s : Sub G H) (h : ∀ b o, H b = some o → H' b = some o ∨ (G b = none ∧ NT o)) : Sub G H' := by
  refine ⟨fun b u e => ?_, tabs_keep s.tab fun b o e n => ?_, s.ng⟩
  · rcases h b u (s b u e) with z | ⟨z, _⟩
    · exact z
    · rw [z] at e; cases e
  · rcases h b o e with z | ⟨_, z⟩
    · exact z
    · exact absurd z n
end
end
section
variable {TBL : TabL}
section
variable {prog : Program} {w : World} {A : Around} {E : Value → Shared → Prop} {R : Result → Shared → Prop}
end
section
variable {X : Cx} {K : PySem.W.Frag}
end
end
section
variable {TBL : TabL}
def fldL (f : Str) : List (D × D) → Option D
  | [] => none
  | (.str g, d) :: r => if g = f then some d else fldL f r
  | _ :: r => fldL f r
section
variable {K : PySem.W.Frag} {G : Hp} {f : Str}
theorem fs_some : ∀ {fs : List (Str × V)} {es : List (D × D)} {d : D}, DenFs K G fs es → fldL f es = some d → ∃ v, fs.lookup f = some v ∧ Den K G v d
  | _, _, _, .nil, e => by cases e
  | _, _, d, .cons (f := g) (v := v) (r := r) h t, e => by
    unfold fldL at e
    by_cases z : g = f
    · rw [if_pos z] at e
      cases e
      subst z
      exact ⟨v, by simp [List.lookup], h⟩
    · rw [if_neg z] at e
      obtain ⟨u, h1, h2⟩ := fs_some t e
      have hb : (f == g) = false := beq_eq_false_iff_ne.mpr (Ne.symm z)
      exact ⟨u, by simp only [List.lookup, hb]; exact h1, h2⟩
theorem fs_none : ∀ {fs : List (Str × V)} {es : List (D × D)}, DenFs K G fs es → fldL f es = none → fs.lookup f = none
  | _, _, .nil, e => rfl
  | _, _, .cons (f := g) (v := v) (r := r) h t, e => by
    unfold fldL at e
    by_cases z : g = f
    · rw [if_pos z] at e; cases e
    · rw [if_neg z] at e
      have hb : (f == g) = false := beq_eq_false_iff_ne.mpr (Ne.symm z)
      simp only [List.lookup, hb]
      exact fs_none t e
end
def fldD (x f : Str) : D → Option D
  | .dict ((.none, .str y) :: es) => if y = x then fldL f es else none
  | _ => none
def meOk (x m : Str) : D → Bool
  | .dict ((.none, .str y) :: es) => decide (y = x) && (fldL m es).isNone
  | _ => false
theorem den_obj {K : PySem.W.Frag} {G : Hp} {v : V} {x : Str} {es : List (D × D)} (h : Den K G v (.dict ((.none, .str x) :: es))) : ∃ a C dx fs, v = .ref a ∧ G a = some (.ins C dx fs) ∧ PySem.W.nsIn K mainGlobals x = some (some (.ref C)) ∧ DenFs K G fs es := by
  cases h with
  | obj e n r => exact ⟨_, _, _, _, rfl, e, n, r⟩
structure ClsX (K : PySem.W.Frag) (x : Str) (C : Addr) : Prop where
  ns : PySem.W.nsIn K mainGlobals x = some (some (.ref C))
  cl : Cls K C
section
variable {S : Type} {X : Cx} {e o : Expr} {es : List Expr} {x f m : Str} {C : Addr} {pos apos : Pos} {g go : DS S → Option D} {gs : DS S → Option (List D)}
def gFld (x f : Str) (g : DS S → Option D) : DS S → Option D := fun ds => (g ds).bind (fldD x f)
theorem p_fld {K : PySem.W.Frag} (cx : ClsX K x C) (na : NoAttr K C f) {σ : L2.St} {H : Hp} {Q : VK} (h : tP K (gFld x f g) σ H Q) : tFld K (tP K g) f σ H Q := by
  obtain ⟨G, ds, d, s, w, e, k⟩ := h
  unfold gFld at e
  cases eg : g ds with
  | none => rw [eg] at e; cases e
  | some d0 =>
    rw [eg, Option.bind_some] at e
    refine ⟨G, ds, d0, s, w, eg, fun v G1 H1 g1 d1 => ?_⟩
    unfold fldD at e
    split at e
    · rename_i y es'
      split at e
      · rename_i hy
        subst hy
        obtain ⟨a, C', dx, fs, rfl, ha, hn, hf⟩ := den_obj d1
        have : C' = C := by rw [cx.ns] at hn; cases hn; rfl
        subst this
        obtain ⟨u, hu, du⟩ := fs_some hf e
        exact ⟨a, C', dx, fs, u, rfl, g1.sub _ _ ha, cx.cl, na, hu, k u G1 H1 g1 du⟩
      · cases e
    · cases e
theorem ep_fld (cx : ClsX X.K x C) (na : NoAttr X.K C f) (he : PE X e (tP X.K g)) (hb : attributeBase e f X.env (eval e X.env) = eval e X.env := by rfl) : PE X (.Attribute e f pos) (tP X.K (gFld x f g)) :=
  PE.imp (pe_fld he hb) fun _ _ _ h => p_fld cx na h
section
variable {CT : CXT} {k : Nat} {fa : Addr} {fd : FuncData} {ps : List Str} {sp : Sp} {E : XK} {ta : TE} {t : TA}
theorem pe_methG {pl : Sem Bool} (he : PE X o ta) (c : Cls X.K C) (hm : Meth X.K C m fa) (F : FnG X.prog X.w X.K X.mg X.base CT k fa fd ps sp) (hr : Room k X.A) (hgd : X.A.guards = some []) (hb : Binds X.K fd ps []) (hx : Passes CT X E) (ha : PA X (e :: es) t)
    (hst : starEach (e :: es) X.env = (false, eval e X.env) :: starEach es X.env := by rfl) (hpl : (backTo pos (starEach es X.env)).any (·.1) = false := by rfl)
    (ht : eval (.Call (.Attribute o m apos) (e :: es) [] pos) X.env = (do
      let ov ← eval o X.env
      standAt apos.atName
      let (f, first) ← holding [ov] (getMethod ov m pl)
      callWith pos f first (backTo pos (starEach (e :: es) X.env)) (backToKw pos (keywordEach [] X.env))) := by rfl) :
    PE X (.Call (.Attribute o m apos) (e :: es) [] pos) (tMeth C m sp [] E ta t) := by
  refine ⟨fun pins s σ H Q I h => ?_⟩
  refine PySem.W.methodCall_KW (pl := pl) (thn (he.run pins s σ H _ I h) fun u s1 ⟨x, H1, I1, rx, a, dx, fs, ex, ea, l, q⟩ => ?_) ht
  subst ex
  obtain rfl : u = Value.ref a := rx
  refine getmeth_ok I1 ea c hm l ?_
  refine PySem.W.callWith_K (first := [.ref a]) (h₀ := X.base) I1.ok.mod.kin hm.kp (thn (ha.run pos pins s1 σ H1 _ I1 q) fun us s2 ⟨vs, H2, I2, r, q2⟩ => ⟨I2.kIn, ?_⟩) hst hpl
  refine runG (us := .ref a :: us) (vs := .ref a :: vs) F hr hgd hb hx I2 (.cons rfl r) ?_
  have q3 : sp (V.ref a :: (vs ++ [])) H2 Q E := q2
  rw [List.append_nil] at q3
  exact q3
theorem pe_methG0 {pl : Sem Bool} (he : PE X o ta) (c : Cls X.K C) (hm : Meth X.K C m fa) (F : FnG X.prog X.w X.K X.mg X.base CT k fa fd ps sp) (hr : Room k X.A) (hgd : X.A.guards = some []) (hb : Binds X.K fd ps []) (hx : Passes CT X E)
    (ht : eval (.Call (.Attribute o m apos) [] [] pos) X.env = (do
      let ov ← eval o X.env
      standAt apos.atName
      let (f, first) ← holding [ov] (getMethod ov m pl)
      callWith pos f first (backTo pos (starEach [] X.env)) (backToKw pos (keywordEach [] X.env))) := by rfl) :
    PE X (.Call (.Attribute o m apos) [] [] pos) (tMeth C m sp [] E ta tNil) := by
  refine ⟨fun pins s σ H Q I h => ?_⟩
  refine PySem.W.methodCall_KW (pl := pl) (thn (he.run pins s σ H _ I h) fun u s1 ⟨x, H1, I1, rx, a, dx, fs, ex, ea, l, q⟩ => ?_) ht
  subst ex
  obtain rfl : u = Value.ref a := rx
  refine getmeth_ok I1 ea c hm l ?_
  exact PySem.W.callWith_K0 (first := [.ref a]) I1.kIn hm.kp (runG (us := [.ref a]) (vs := [.ref a]) F hr hgd hb hx I1 (.cons rfl .nil) q)
end
structure ClM (P : Program) (w : World) (K : PySem.W.Frag) (mg : Str → Option Value) (base : Heap) (k : Nat) (C : Addr) (m : Str) (sp : Sp) : Prop where
  ex : ∃ f fd ps, FnG P w K mg base CX0 k f fd ps sp ∧ Binds K fd ps [] ∧ Meth K C m f
variable {R : StI S} {j k n : Nat} {F : List D → Option (MO S)}
def gMeth (n : Nat) (x m : Str) (F : List D → Option (MO S)) (go : DS S → Option D) (gs : DS S → Option (List D)) : DS S → Option D := fun ds => (go ds).bind fun d => (gs ds).bind fun as => if meOk x m d = true ∧ as.length + 1 = n then (F (d :: as)).bind toD else none
theorem me_den {K : PySem.W.Frag} {G H : Hp} {v : V} {d : D} (cx : ClsX K x C) (h : meOk x m d = true) (s : Sub G H) (dv : Den K G v d) : ∃ a dx fs, v = .ref a ∧ H a = some (.ins C dx fs) ∧ fs.lookup m = none := by
  unfold meOk at h
  split at h
  · rename_i y es'
    rw [Bool.and_eq_true] at h
    have hy := of_decide_eq_true h.1
    subst hy
    obtain ⟨a, C', dx, fs, rfl, ha, hn, hf⟩ := den_obj dv
    have : C' = C := by rw [cx.ns] at hn; cases hn; rfl
    subst this
    exact ⟨a, dx, fs, rfl, s _ _ ha, fs_none hf (Option.isNone_iff_eq_none.mp h.2)⟩
  · cases h
theorem p_meth {K : PySem.W.Frag} (cx : ClsX K x C) {σ : L2.St} {H : Hp} {Q : VK} (h : tP K (gMeth n x m F go gs) σ H Q) : tMeth C m (spP K R n F) [] E0 (tP K go) (tPA K gs) σ H Q := by
  obtain ⟨G, ds, d, s, w, e, k⟩ := h
  unfold gMeth at e
  cases eg : go ds with
  | none => rw [eg] at e; cases e
  | some d0 =>
    rw [eg, Option.bind_some] at e
    cases ea : gs ds with
    | none => rw [ea] at e; cases e
    | some as =>
      rw [ea, Option.bind_some] at e
      split at e
      · rename_i hm
        cases ef : F (d0 :: as) with
        | none => rw [ef] at e; cases e
        | some m0 =>
          rw [ef] at e
          refine ⟨G, ds, d0, s, w, eg, fun v G1 H1 g1 d1 => ?_⟩
          obtain ⟨a, dx, fs, rfl, ha, hf⟩ := me_den cx hm.1 g1.sub d1
          refine ⟨a, dx, fs, rfl, ha, hf, G1, ds, as, g1.sub, w.mono g1.keep, ea, fun vs G2 H2 g2 d2 => ?_⟩
          show spP K R n F (V.ref a :: (vs ++ [])) H2 Q E0
          rw [List.append_nil]
          refine ⟨by rw [List.length_cons, d2.length]; exact hm.2, G2, d0 :: as, m0, g2.sub, .cons (d1.mono g2.keep) d2, ef, fun u G3 H3 fr s3 o n3 => ?_⟩
          have gg := (g1.trans g2).trans (step_gr s3)
          cases m0 with
          | d y => cases e; exact k u G3 H3 gg o.1
          | lst xs =>
            cases e
            obtain ⟨q, vs2, rfl, hq, z, dd, fq⟩ := o
            have hG : G3 q = none := n3 q ((fq q).mpr rfl)
            have hH : H2 q = none := (s3.newf q ((fq q).mpr rfl)).elim False.elim fun z => z
            exact k _ (upd G3 q (.lst vs2)) H3 ((g1.trans g2).trans ((step_gr s3).freeze hG hH hq)) (.lst upd_same z (dd.mono fun b u e => by rw [upd_ne (ne_of_none e hG)]; exact e))
          | st s => cases e
          | scr ns => cases e
          | dic kvs =>
            cases e
            obtain ⟨q, vs2, rfl, hq, z, dd, fq⟩ := o
            have hG : G3 q = none := n3 q ((fq q).mpr rfl)
            have hH : H2 q = none := (s3.newf q ((fq q).mpr rfl)).elim False.elim fun z => z
            exact k _ (upd G3 q (.dK vs2)) H3 ((g1.trans g2).trans ((step_gr s3).freeze hG hH hq)) (.dct upd_same z (kvs_den (dd.mono fun b u e => by rw [upd_ne (ne_of_none e hG)]; exact e)))
          | lk kvs => cases e
          | dp x => cases e
          | obj y fs => cases e
      · cases e
theorem cp_meth0 (cm : ClM X.prog X.w X.K X.mg X.base j C m (spP X.K R n F)) (cx : ClsX X.K x C) (hk : j ≤ k) (hr : Room k X.A) (hgd : X.A.guards = some []) (ho : PE X o (tP X.K go)) {pl : Sem Bool}
    (ht : eval (.Call (.Attribute o m apos) [] [] pos) X.env = (do
      let ov ← eval o X.env
      standAt apos.atName
      let (f, first) ← holding [ov] (getMethod ov m pl)
      callWith pos f first (backTo pos (starEach [] X.env)) (backToKw pos (keywordEach [] X.env))) := by rfl) :
    PE X (.Call (.Attribute o m apos) [] [] pos) (tP X.K (gMeth n x m F go gNil)) := by
  obtain ⟨f, fd, ps, Fn, hb, hm⟩ := cm.ex
  exact PE.imp (pe_methG0 ho cx.cl hm (Fn.up hk) hr hgd hb pass0 ht) fun σ H Q h => by
    have q := p_meth (R := R) cx h
    obtain ⟨G, ds, d, s, w, e, k⟩ := q
    refine ⟨G, ds, d, s, w, e, fun v G1 H1 g1 d1 => ?_⟩
    obtain ⟨a, dx, fs, e1, e2, e3, G2, ds2, as, s2, w2, ea, k2⟩ := k v G1 H1 g1 d1
    cases ea
    exact ⟨a, dx, fs, e1, e2, e3, k2 [] G2 H1 (.refl s2) .nil⟩
def oMeth (n : Nat) (x m : Str) (F : List D → Option (MO S)) (go : DS S → Option D) (gs : DS S → Option (List D)) : XF S (MO S) := fun ds => (go ds).bind fun d => (gs ds).bind fun as => if meOk x m d = true ∧ as.length + 1 = n then (F (d :: as)).bind fun r => match r with
  | .d y => if noList y = true then some (.d y, ds) else none
  | .lst ys => if noListAll ys = true then some (.lst ys, ds) else none
  | _ => none else none
end
end
section
variable {TBL : TabL}
abbrev Fls := List (Str × FV)
section
variable {S : Type}
def objAt (ds : DS S) (i : Nat) (x : Str) : Option Fls := match ds[i]? with
  | some (some (.obj y fs)) => if y = x then some fs else none
  | _ => none
theorem objAt_some {ds : DS S} {i : Nat} {x : Str} {fs : Fls} (h : objAt ds i x = some fs) : ds[i]? = some (some (.obj x fs)) := by
  unfold objAt at h
  split at h
  · split at h
    · rename_i hy
      cases h
      subst hy
      assumption
    · cases h
  · cases h
def spB [TabL] (K : PySem.W.Frag) (R : StI S) (x : Str) (n : Nat) (F : Fls → List D → Option (MO S × Fls)) : Sp := fun vs H Q _ => vs.length = n ∧ ∃ G fp v0 vr fs as m fs', vs = v0 :: vr ∧ Sub G H ∧ OwnAt (S := S) K R G H v0 (.obj x fs) fp ∧ (∀ a, fp a → G a = none) ∧ DenAll K G vr as ∧ F fs as = some (m, fs') ∧
  ∀ v G' H' fp' fr, Step G H fp G' H' (fun a => fp' a ∨ fr a) → OwnAt (S := S) K R G' H' v0 (.obj x fs') fp' → OwnAt K R G' H' v m fr → (∀ a, fr a → ¬ fp' a) → (∀ a, fp' a ∨ fr a → G' a = none) → Q v H'
def runB (x : Str) (n : Nat) (g : SF S) : Fls → List D → Option (MO S × Fls) := fun fs as => (g (startD n (.obj x fs :: as.map .d))).bind fun o => (outM o).bind fun p => (objAt p.2 0 x).map fun fs' => (p.1, fs')
section
variable {K : PySem.W.Frag} {R : StI S} {P : Program} {w : World} {mg : Str → Option Value} {base : Heap} {x qual c : Str} {st : Stmt} {f : Addr} {fd : FuncData} {N ps : List Str} {k : Nat} {g : SF S}
theorem fn_B (Fn : Fun K x qual st f fd) (sc : FnScope N ps (defScope st)) (hbody : BodyOk P w K mg base N qual st f k R [0] g) : FnG P w K mg base CX0 (k + 1) f fd ps (spB K R c ps.length (runB c N.length g)) := by
  refine fnG_of Fn sc (fun vs H Q E h => h.1) fun cdv A outer s H vs Q E hr hgd h => ⟨_, hbody cdv A outer s H E hr hgd, ?_⟩
  obtain ⟨hl, G, fp, v0, vr, t, as, m, t', rfl, sm, rel, nn, d, e, q⟩ := h
  unfold runB at e
  cases eg : g (startD N.length (.obj c t :: as.map .d)) with
  | none => rw [eg] at e; cases e
  | some o =>
    rw [eg] at e
    simp only [Option.bind_some] at e
    have r := rs_start (N := N) sm (argOk_first (R := R) (H := H) (v0 := v0) (m0 := .obj c t) (fp := fp) rel nn d)
    refine ⟨G, _, _, o, r, eg, ?_⟩
    have nf : ∀ {G' H' : Hp} {P' : Addr → Prop}, Step G H (fun a => ∃ (i : Nat), i = 0 ∧ fp a) G' H' P' → Step G H fp G' H' P' := fun s => ⟨fun a ha o e => s.frame a (fun ⟨_, _, z⟩ => ha z) o e, s.keep, s.sub, fun b hb => by
      rcases s.new0 b hb with z | z | ⟨_, _, z⟩
      · exact .inl z
      · exact .inr (.inl z)
      · exact .inr (.inr z), fun b hb => (s.newf b hb).elim (fun ⟨_, _, z⟩ => .inl z) .inr⟩
    have st0 : (L2.start N (v0 :: vr))[0]? = some (some v0) := rfl
    have fin : ∀ (m' : MO S) (ds' : DS S), (outM o) = some (m', ds') → (objAt ds' 0 c).map (fun s' => (m', s')) = some (m, t') ∧ True := fun m' ds' h => by
      rw [h] at e
      exact ⟨e, trivial⟩
    cases o with
    | nx ds' =>
      intro σ' G' H' F' r' s' p'
      obtain ⟨e1, _⟩ := fin _ _ rfl
      cases es : objAt ds' 0 c with
      | none => rw [es] at e1; cases e1
      | some t2 =>
        rw [es] at e1
        cases e1
        obtain ⟨v1, hv1, o1⟩ := r'.own 0 _ (objAt_some es)
        have hp := p' 0 (List.mem_singleton.mpr rfl)
        rw [hv1, st0] at hp
        cases hp
        exact q .non G' H' (F' 0) (fun _ => False) ((nf s').weaken fun b z => z.elim (fun z => ⟨0, z⟩) False.elim) o1 ⟨.non, fun _ z => z⟩ (fun _ z => z.elim) fun b z => z.elim (fun z => r'.dis 0 b z) False.elim
    | rt m' ds' =>
      intro v σ' G' H' F' fr r' s' o' h1 h2 p'
      obtain ⟨e1, _⟩ := fin _ _ rfl
      cases es : objAt ds' 0 c with
      | none => rw [es] at e1; cases e1
      | some t2 =>
        rw [es] at e1
        cases e1
        obtain ⟨v1, hv1, o1⟩ := r'.own 0 _ (objAt_some es)
        have hp := p' 0 (List.mem_singleton.mpr rfl)
        rw [hv1, st0] at hp
        cases hp
        exact q v G' H' (F' 0) fr ((nf s').weaken fun b z => z.elim (fun z => .inl ⟨0, z⟩) .inr) o1 o' (fun b z y => h1 b z ⟨0, y⟩) fun b z => z.elim (fun z => r'.dis 0 b z) (h2 b)
    | bk ds' => cases e
    | ct ds' => cases e
end
theorem RS.calleeM {K : PySem.W.Frag} {R : StI S} {ds1 : DS S} {σ : L2.St} {G H G1 H1 G2 H2 : Hp} {F1 : Nat → Addr → Prop} {P : Addr → Prop} {i : Nat} {m0 m1 : MO S} {v0 : V} {fp fr : Addr → Prop} (r1 : RS K R ds1 σ G1 H1 F1) (e1 : ds1[i]? = some (some m0)) (hv0 : σ[i]? = some (some v0)) (s1 : Step G H P G1 H1 (fun a => ∃ j, F1 j a))
    (s2 : Step G1 H1 (F1 i) G2 H2 (fun a => fp a ∨ fr a)) (rel : OwnAt K R G2 H2 v0 m1 fp) (h1 : ∀ a, fr a → ¬ fp a) (h2 : ∀ a, fp a ∨ fr a → G2 a = none) :
    RS K R (ds1.set i (some m1)) σ G2 H2 (setF F1 i fp) ∧ Step G H P G2 H2 (fun a => (∃ j, setF F1 i fp j a) ∨ fr a) ∧ (∀ a, fr a → ¬ ∃ j, setF F1 i fp j a) := by
  have hi : i < ds1.length := (List.getElem?_eq_some_iff.mp e1).1
  have apart : ∀ a, fp a ∨ fr a → ∀ j, j ≠ i → ¬ F1 j a := fun a ha j hj hf => (s2.newf a ha).elim (fun z => hj (r1.dj j i a hf z)) (r1.trk j a hf)
  have r2 : RS K R (ds1.set i (some m1)) σ G2 H2 (setF F1 i fp) := by
    refine ⟨s2.sub, by rw [List.length_set]; exact r1.len, fun j m' q' => ?_, fun j q' a ha => ?_, fun j l a ha hb => ?_, fun j a ha => ?_⟩
    · by_cases hj : i = j
      · subst hj
        rw [List.getElem?_set_self hi] at q'
        cases q'
        exact ⟨v0, hv0, OwnAt.iff rel fun a => by unfold setF; rw [if_pos rfl]⟩
      · rw [List.getElem?_set_ne hj] at q'
        obtain ⟨u, h3, h4⟩ := r1.own j m' q'
        refine ⟨u, h3, (h4.mono s2.keep fun a ha => ?_).iff fun a => by unfold setF; rw [if_neg (Ne.symm hj)]⟩
        cases z : H1 a with
        | none => exact absurd z (r1.trk j a ha)
        | some o => exact (s2.frame a (fun y => hj (r1.dj i j a y ha)) o z).nt (r1.ntb j a ha o z)
    · unfold setF at ha
      by_cases hj : j = i
      · subst hj
        exact q' _ (List.getElem?_set_self hi)
      · rw [if_neg hj] at ha
        refine r1.emp j (fun m' z => q' m' ?_) a ha
        rw [List.getElem?_set_ne (Ne.symm hj)]
        exact z
    · unfold setF at ha hb
      by_cases hj : j = i
      · rw [if_pos hj] at ha
        by_cases hl : l = i
        · rw [hj, hl]
        · rw [if_neg hl] at hb
          exact absurd hb (apart a (.inl ha) l hl)
      · rw [if_neg hj] at ha
        by_cases hl : l = i
        · rw [if_pos hl] at hb
          exact absurd ha (apart a (.inl hb) j hj)
        · rw [if_neg hl] at hb
          exact r1.dj j l a ha hb
    · unfold setF at ha
      by_cases hj : j = i
      · rw [if_pos hj] at ha; exact h2 a (.inl ha)
      · rw [if_neg hj] at ha
        cases z : G2 a with
        | none => rfl
        | some o =>
          rcases s2.new0 a (by rw [z]; simp) with y | y | y
          · exact absurd (r1.dis j a ha) y
          · exact absurd y (r1.trk j a ha)
          · exact absurd (r1.dj j i a ha y) hj
  refine ⟨r2, s1.trans ⟨fun a ha o e => s2.frame a (fun z => ha ⟨i, z⟩) o e, s2.keep, s2.sub, fun b hb => ?_, fun b hb => ?_⟩, fun a ha ⟨j, z⟩ => ?_⟩
  · rcases s2.new0 b hb with y | y | y
    · exact .inl y
    · exact .inr (.inl y)
    · exact .inr (.inr ⟨i, y⟩)
  · rcases hb with hb | hb
    · rcases setF_un b hb with z | z
      · exact .inl z
      · exact (s2.newf b (.inl z)).elim (fun z => .inl ⟨i, z⟩) .inr
    · exact (s2.newf b (.inr hb)).elim (fun z => .inl ⟨i, z⟩) .inr
  · unfold setF at z
    by_cases hj : j = i
    · rw [if_pos hj] at z; exact h1 a ha z
    · rw [if_neg hj] at z; exact apart a (.inr ha) j hj z
variable {X : Cx} {R : StI S} {e o : Expr} {es : List Expr} {x f m : Str} {C : Addr} {pos apos cpos : Pos} {i j k n : Nat}
theorem fs_noname {K : PySem.W.Frag} {G H : Hp} {nm : Str} : ∀ {vs : List (Str × V)} {fs : Fls} {fp : Addr → Prop}, FsAt K G H vs fs fp → fldL nm (fsD fs) = none → vs.lookup nm = none
  | _, _, _, .nil _, _ => rfl
  | _, _, _, .cons (f := g) (m := mm) (s := s) h r _ _, e => by
    have e' : (if g = nm then some (fvD mm) else fldL nm (fsD s)) = none := e
    by_cases z : g = nm
    · rw [if_pos z] at e'; cases e'
    · rw [if_neg z] at e'
      have hb : (nm == g) = false := beq_eq_false_iff_ne.mpr (Ne.symm z)
      simp only [List.lookup, hb]
      exact fs_noname r e'
def oCallB (n i : Nat) (x m : Str) (F : Fls → List D → Option (MO S × Fls)) (fa : XF S (List D)) : XF S (MO S) := fun ds0 => (objAt ds0 i x).bind fun fs0 => if (fldL m (fsD fs0)).isNone = true then xb fa (fun as => fun ds => (objAt ds i x).bind fun fs => if as.length + 1 = n then (F fs as).map fun q => (q.1, ds.set i (some (.obj x q.2))) else none) ds0 else none
theorem o_callB {K : PySem.W.Frag} (cx : ClsX K x C) {F : Fls → List D → Option (MO S × Fls)} {fa : XF S (List D)} {σ : L2.St} {H : Hp} {Q : VK} (h : tO K R (oCallB n i x m F fa) σ H Q) : tMeth C m (spB K R x n F) [] E0 (tVar i) (tXA K R fa) σ H Q := by
  obtain ⟨G, F0, ds, m0, ds', rs, e, k⟩ := h
  unfold oCallB at e
  cases e0 : objAt ds i x with
  | none => rw [e0] at e; cases e
  | some t0 =>
  rw [e0, Option.bind_some] at e
  split at e
  · rename_i hnm
    obtain ⟨as, ds1, ea, e⟩ := xb_some e
    cases e1 : objAt ds1 i x with
    | none => rw [e1] at e; cases e
    | some t =>
    rw [e1, Option.bind_some] at e
    by_cases hn : as.length + 1 = n
    · rw [if_pos hn] at e
      cases ef : F t as with
      | none => rw [ef] at e; cases e
      | some q =>
        rw [ef] at e
        cases e
        obtain ⟨v0, hv0, p, C', dx, vs0, f1, rfl, hc, hp, hf, _, _⟩ := rs.own i _ (objAt_some e0)
        have : C' = C := by rw [cx.ns] at hc; cases hc; rfl
        subst this
        refine ⟨_, hv0, p, dx, vs0, rfl, hp, fs_noname hf (Option.isNone_iff_eq_none.mp hnm), G, F0, ds, as, ds1, rs, ea, fun vs G1 H1 F1 r1 s1 d1 => ?_⟩
        show spB K R x n F (V.ref p :: (vs ++ [])) H1 Q E0
        rw [List.append_nil]
        obtain ⟨v1, hv1, o1⟩ := r1.own i _ (objAt_some e1)
        rw [hv0] at hv1
        cases hv1
        refine ⟨by rw [List.length_cons, d1.length]; exact hn, G1, F1 i, _, vs, t, as, q.1, q.2, rfl, r1.sub, o1, r1.dis i, d1, ef, fun v G2 H2 fp fr s2 rel o h1 h2 => ?_⟩
        obtain ⟨r2, s3, ap⟩ := r1.calleeM (objAt_some e1) hv0 s1 s2 rel h1 h2
        exact k v G2 H2 _ fr r2 s3 o ap fun a ha => h2 a (.inr ha)
    · rw [if_neg hn] at e; cases e
  · cases e
theorem co_callB {F : Fls → List D → Option (MO S × Fls)} {fa : XF S (List D)} (cm : ClM X.prog X.w X.K X.mg X.base j C m (spB X.K R x n F)) (cx : ClsX X.K x C) (hk : j ≤ k) (hr : Room k X.A) (hgd : X.A.guards = some []) (ho : PE X o (tVar i)) (ha : PA X (e :: es) (tXA X.K R fa)) {pl : Sem Bool}
    (hst : starEach (e :: es) X.env = (false, eval e X.env) :: starEach es X.env := by rfl) (hpl : (backTo pos (starEach es X.env)).any (·.1) = false := by rfl)
    (ht : eval (.Call (.Attribute o m apos) (e :: es) [] pos) X.env = (do
      let ov ← eval o X.env
      standAt apos.atName
      let (f, first) ← holding [ov] (getMethod ov m pl)
      callWith pos f first (backTo pos (starEach (e :: es) X.env)) (backToKw pos (keywordEach [] X.env))) := by rfl) :
    PE X (.Call (.Attribute o m apos) (e :: es) [] pos) (tO X.K R (oCallB n i x m F fa)) := by
  obtain ⟨f, fd, ps, Fn, hb, hm⟩ := cm.ex
  exact PE.imp (pe_methG ho cx.cl hm (Fn.up hk) hr hgd hb pass0 ha hst hpl ht) fun _ _ _ h => o_callB cx h
theorem co_callB0 {F : Fls → List D → Option (MO S × Fls)} (cm : ClM X.prog X.w X.K X.mg X.base j C m (spB X.K R x n F)) (cx : ClsX X.K x C) (hk : j ≤ k) (hr : Room k X.A) (hgd : X.A.guards = some []) (ho : PE X o (tVar i)) {pl : Sem Bool}
    (ht : eval (.Call (.Attribute o m apos) [] [] pos) X.env = (do
      let ov ← eval o X.env
      standAt apos.atName
      let (f, first) ← holding [ov] (getMethod ov m pl)
      callWith pos f first (backTo pos (starEach [] X.env)) (backToKw pos (keywordEach [] X.env))) := by rfl) :
    PE X (.Call (.Attribute o m apos) [] [] pos) (tO X.K R (oCallB n i x m F xNil)) := by
  obtain ⟨f, fd, ps, Fn, hb, hm⟩ := cm.ex
  exact PE.imp (pe_methG0 ho cx.cl hm (Fn.up hk) hr hgd hb pass0 ht) fun σ H Q h => by
    obtain ⟨v, hv, a, dx, fs, e1, e2, e3, G, F0, ds, as, ds', rs, ea, k2⟩ := o_callB (R := R) cx h
    cases ea
    exact ⟨v, hv, a, dx, fs, e1, e2, e3, k2 [] G H F0 rs (.refl rs.sub) .nil⟩
def putFV (f : Str) (v : FV) : Fls → Fls
  | [] => [(f, v)]
  | (g, w) :: r => if g = f then (g, v) :: r else (g, w) :: putFV f v r
theorem FsAt.iff {K : PySem.W.Frag} {G H : Hp} {vs : List (Str × V)} {fs : Fls} {fp fq : Addr → Prop} (h : FsAt K G H vs fs fp) (e : ∀ a, fq a ↔ fp a) : FsAt K G H vs fs fq := by
  have : fq = fp := funext fun a => propext (e a)
  rw [this]
  exact h
theorem FsAt.put {K : PySem.W.Frag} {G H : Hp} {f : Str} {y : V} {m : FV} {f1 : Addr → Prop} : ∀ {vs : List (Str × V)} {fs : Fls} {fp : Addr → Prop}, FsAt K G H vs fs fp → FVAt K G H y m f1 → (∀ a, f1 a → ¬ fp a) → ∃ fq, FsAt K G H (L2.putF f y vs) (putFV f m fs) fq ∧ ∀ a, fq a → fp a ∨ f1 a
  | _, _, fp, .nil n, h, dj => ⟨f1, .cons h (.nil (fp := fun _ => False) fun _ z => z) (fun _ _ z => z) fun a => ⟨.inl, fun z => z.elim id False.elim⟩, fun a ha => .inr ha⟩
  | _, _, fp, .cons (f := g) (v := v) (m := mm) (r := r) (s := s) (f1 := g1) (f2 := g2) h1 r1 d1 e1, h, dj => by
    have ev : L2.putF f y ((g, v) :: r) = if g = f then (g, y) :: r else (g, v) :: L2.putF f y r := rfl
    have ef : putFV f m ((g, mm) :: s) = if g = f then (g, m) :: s else (g, mm) :: putFV f m s := rfl
    by_cases z : g = f
    · rw [ev, ef, if_pos z, if_pos z]
      exact ⟨fun a => f1 a ∨ g2 a, .cons h r1 (fun a ha hb => dj a ha ((e1 a).mpr (.inr hb))) fun a => Iff.rfl, fun a ha => ha.elim .inr fun q => .inl ((e1 a).mpr (.inr q))⟩
    · rw [ev, ef, if_neg z, if_neg z]
      obtain ⟨fq, h2, h3⟩ := FsAt.put r1 h fun a ha hb => dj a ha ((e1 a).mpr (.inr hb))
      exact ⟨fun a => g1 a ∨ fq a, .cons h1 h2 (fun a ha hb => (h3 a hb).elim (d1 a ha) fun q => dj a q ((e1 a).mpr (.inl ha))) fun a => Iff.rfl, fun a ha => ha.elim (fun q => .inl ((e1 a).mpr (.inl q))) fun q => (h3 a q).imp (fun q => (e1 a).mpr (.inr q)) id⟩
theorem FsAt.len {K : PySem.W.Frag} {G H : Hp} : ∀ {vs : List (Str × V)} {fs : Fls} {fp : Addr → Prop}, FsAt K G H vs fs fp → vs.length = fs.length
  | _, _, _, .nil _ => rfl
  | _, _, _, .cons _ r _ _ => congrArg (· + 1) (FsAt.len r)
def toFV : MO S → Option FV
  | .d x => some (.d x)
  | .lst xs => some (.l xs)
  | .dic kvs => some (.k kvs)
  | _ => none
theorem toFV_ok {K : PySem.W.Frag} {G H : Hp} {v : V} {m : MO S} {fv : FV} {fp : Addr → Prop} (e : toFV m = some fv) (o : OwnAt K R G H v m fp) : FVAt K G H v fv fp := by
  cases m with
  | d x => cases e; exact o
  | lst xs => cases e; exact o
  | dic kvs => cases e; exact o
  | lk kvs => cases e
  | dp x => cases e
  | st s => cases e
  | scr ns => cases e
  | obj y fs => cases e
def gSetFld (i : Nat) (x f : Str) (v : XF S (MO S)) : SF S := fun ds => (v ds).bind fun p => (objAt p.2 i x).bind fun fs => (toFV p.1).bind fun fv => if fs.length < 1000 then some (.nx (p.2.set i (some (.obj x (putFV f fv fs))))) else none
end
end
section
variable {TBL : TabL}
section
variable {S : Type}
theorem RS.putMO {K : PySem.W.Frag} {R : StI S} {ds : DS S} {σ : L2.St} {G H : Hp} {F : Nat → Addr → Prop} (r : RS K R ds σ G H F) {i : Nat} {m0 m1 : MO S} {v : V} {q : Addr} {o : HO} {fr fp : Addr → Prop} (e : ds[i]? = some (some m0)) (hv : σ[i]? = some (some v)) (hq : F i q) (rel : OwnAt K R G (upd H q o) v m1 fp)
    (hfp : ∀ a, fp a → F i a ∨ fr a) (d : ∀ a, fr a → ¬ ∃ j, F j a) (n : ∀ a, fr a → G a = none) :
    RS K R (ds.set i (some m1)) σ G (upd H q o) (setF F i fp) ∧ Step G H (fun a => (∃ j, F j a) ∨ fr a) G (upd H q o) (fun a => ∃ j, setF F i fp j a) := by
  have hi : i < ds.length := (List.getElem?_eq_some_iff.mp e).1
  have hg : G q = none := r.dis i q hq
  have sub : Sub G (upd H q o) := r.sub.write hg (r.ntb i q hq)
  refine ⟨⟨sub, by rw [List.length_set]; exact r.len, fun j m z => ?_, fun j z a ha => ?_, fun j l a ha hb => ?_, fun j a ha => ?_⟩, ⟨fun a ha u z => ?_, Same.refl _, sub, fun b hb => .inl hb, fun b hb => ?_⟩⟩
  · by_cases hj : i = j
    · subst hj
      rw [List.getElem?_set_self hi] at z
      cases z
      exact ⟨v, hv, OwnAt.iff rel fun a => by unfold setF; rw [if_pos rfl]⟩
    · rw [List.getElem?_set_ne hj] at z
      obtain ⟨u, h1, h2⟩ := r.own j m z
      exact ⟨u, h1, (h2.mono (Same.refl _) fun a ha => upd_ne fun y => hj (r.dj i j a (by rw [y]; exact hq) ha)).iff fun a => by unfold setF; rw [if_neg (Ne.symm hj)]⟩
  · unfold setF at ha
    by_cases hj : j = i
    · subst hj
      exact z _ (List.getElem?_set_self hi)
    · rw [if_neg hj] at ha
      refine r.emp j (fun m y => z m ?_) a ha
      rw [List.getElem?_set_ne (Ne.symm hj)]
      exact y
  · unfold setF at ha hb
    by_cases hj : j = i
    · by_cases hl : l = i
      · rw [hj, hl]
      · rw [if_pos hj] at ha
        rw [if_neg hl] at hb
        exact ((hfp a ha).elim (fun z => hl (r.dj l i a hb z)) fun z => d a z ⟨l, hb⟩).elim
    · by_cases hl : l = i
      · rw [if_neg hj] at ha
        rw [if_pos hl] at hb
        exact ((hfp a hb).elim (fun z => hj (r.dj j i a ha z)) fun z => d a z ⟨j, ha⟩).elim
      · rw [if_neg hj] at ha
        rw [if_neg hl] at hb
        exact r.dj j l a ha hb
  · unfold setF at ha
    by_cases hj : j = i
    · rw [if_pos hj] at ha
      exact (hfp a ha).elim (r.dis i a) (n a)
    · rw [if_neg hj] at ha
      exact r.dis j a ha
  · rw [upd_ne fun y => ha (.inl ⟨i, by rw [y]; exact hq⟩)]; exact .inl z
  · obtain ⟨j, hb⟩ := hb
    unfold setF at hb
    by_cases hj : j = i
    · rw [if_pos hj] at hb
      exact (hfp b hb).elim (fun z => .inl (.inl ⟨i, z⟩)) fun z => .inl (.inr z)
    · rw [if_neg hj] at hb
      exact .inl (.inl ⟨j, hb⟩)
variable {X : Cx} {R : StI S} {pn : List Nat} {e o : Expr} {es : List Expr} {x f m : Str} {C : Addr} {pos pos' apos cpos : Pos} {i j k n : Nat}
theorem ss_setFld {v : XF S (MO S)} (cx : ClsX X.K x C) (na : NoAttr X.K C f) (ho : PE X o (tVar i)) (hv : PE X e (tO X.K R v)) (hs : swapsWith e (some (.Attribute o f pos')) pos.line X.env = pure false) :
    PS X (.Assign [.Attribute o f pos'] e pos) (tS X.K R pn (gSetFld i x f v)) := psi (ps_fld ho hv hs) fun Dn σ H ⟨G, F, ds, oo, r, e, k⟩ => by
  unfold gSetFld at e
  cases ev : v ds with
  | none => rw [ev] at e; cases e
  | some p =>
    rw [ev, Option.bind_some] at e
    obtain ⟨m0, ds1⟩ := p
    dsimp only at e
    cases eo : objAt ds1 i x with
    | none => rw [eo] at e; cases e
    | some fs =>
      rw [eo, Option.bind_some] at e
      cases et : toFV m0 with
      | none => rw [et] at e; cases e
      | some fv =>
        rw [et, Option.bind_some] at e
        split at e
        · rename_i hlen
          cases e
          refine ⟨G, F, ds, m0, ds1, r, ev, fun y G1 H1 F1 fr r1 s1 o1 d1 nn => ?_⟩
          obtain ⟨v0, hv0, p, C', dx, vs, f1, rfl, hc, hp, hf, np, hfp⟩ := r1.own i _ (objAt_some eo)
          have : C' = C := by rw [cx.ns] at hc; cases hc; rfl
          subst this
          obtain ⟨fq, hq, hq2⟩ := hf.put (f := f) (toFV_ok et o1) fun a ha hb => d1 a ha ⟨i, (hfp a).mpr (.inr hb)⟩
          have npq : ¬ fq p := fun z => (hq2 p z).elim np fun z => d1 p z ⟨i, (hfp p).mpr (.inl rfl)⟩
          refine ⟨_, hv0, p, C', dx, vs, rfl, hp, cx.cl, na, by rw [hf.len]; exact hlen, ?_⟩
          obtain ⟨r2, s2⟩ := r1.putMO (m1 := .obj x (putFV f fv fs)) (fp := fun a => a = p ∨ fq a) (o := .ins C' dx (L2.putF f y vs)) (objAt_some eo) hv0 ((hfp p).mpr (.inl rfl)) ⟨p, C', dx, _, fq, rfl, hc, upd_same, hq.mono (Same.refl _) (fun a ha => upd_ne fun z => npq (z ▸ ha)), npq, fun a => Iff.rfl⟩
            (fun a ha => ha.elim (fun z => .inl ((hfp a).mpr (.inl z))) fun z => (hq2 a z).imp (fun z => (hfp a).mpr (.inr z)) id) d1 nn
          exact k σ G1 _ _ r2 (s1.trans s2) fun _ _ => rfl
        · cases e
def fvL : FV → Option (List D)
  | .l xs => some xs
  | _ => none
def lstF (f : Str) : Fls → Option (List D)
  | [] => none
  | (g, w) :: r => if g = f then fvL w else lstF f r
theorem FsAt.getl {K : PySem.W.Frag} {G H : Hp} {f : Str} : ∀ {vs : List (Str × V)} {fs : Fls} {fp : Addr → Prop} {xs : List D}, FsAt K G H vs fs fp → lstF f fs = some xs → ∃ q ws, vs.lookup f = some (.ref q) ∧ H q = some (.lst ws) ∧ ws.length ≤ sizeLine ∧ DenAll K G ws xs ∧ fp q ∧
    ∀ H' us ys, (∀ a, fp a → a ≠ q → H' a = H a) → H' q = some (.lst us) → us.length ≤ sizeLine → DenAll K G us ys → FsAt K G H' vs (putFV f (.l ys) fs) fp
  | _, _, _, _, .nil _, e => by cases e
  | _, _, fp, xs, .cons (f := g) (v := v) (m := mm) (r := r) (s := s) (f1 := g1) (f2 := g2) h1 r1 d1 e1, e => by
    have e' : (if g = f then fvL mm else lstF f s) = some xs := e
    by_cases z : g = f
    · rw [if_pos z] at e'
      cases mm with
      | d y => cases e'
      | k kvs => cases e'
      | l ys0 =>
        cases e'
        obtain ⟨q, ws, rfl, hq, hz, hd, hn⟩ := h1
        subst z
        refine ⟨q, ws, by simp [List.lookup], hq, hz, hd, (e1 q).mpr (.inl ((hn q).mpr rfl)), fun H' us ys hk hq' hz' hd' => ?_⟩
        have ef : putFV g (.l ys) ((g, FV.l xs) :: s) = (g, .l ys) :: s := by show (if g = g then _ else _) = _; rw [if_pos rfl]
        rw [ef]
        refine .cons (m := .l ys) ⟨q, us, rfl, hq', hz', hd', hn⟩ (r1.mono (Same.refl _) fun a ha => hk a ((e1 a).mpr (.inr ha)) fun y => d1 a ((hn a).mpr y) ha) d1 e1
    · rw [if_neg z] at e'
      obtain ⟨q, ws, h2, h3, h4, h5, h6, h7⟩ := FsAt.getl r1 e'
      have hb : (f == g) = false := beq_eq_false_iff_ne.mpr (Ne.symm z)
      refine ⟨q, ws, by simp only [List.lookup, hb]; exact h2, h3, h4, h5, (e1 q).mpr (.inr h6), fun H' us ys hk hq' hz' hd' => ?_⟩
      have ef : putFV f (.l ys) ((g, mm) :: s) = (g, mm) :: putFV f (.l ys) s := by show (if g = f then _ else _) = _; rw [if_neg z]
      rw [ef]
      exact .cons (h1.mono (Same.refl _) fun a ha => hk a ((e1 a).mpr (.inl ha)) fun y => d1 a ha (y ▸ h6)) (h7 H' us ys (fun a ha => hk a ((e1 a).mpr (.inr ha))) hq' hz' hd') d1 e1
def xMtF (i : Nat) (x f : Str) (g : List D → List D → Option (D × List D)) (gs : DS S → Option (List D)) : XF S D := fun ds => (objAt ds i x).bind fun fs => (lstF f fs).bind fun xs => (gs (hideDS ds)).bind fun as => (g xs as).map fun q => (q.1, ds.set i (some (.obj x (putFV f (.l q.2) fs))))
theorem x_mtF {K : PySem.W.Frag} (cx : ClsX K x C) (na : NoAttr K C f) {r : V → List V → Hp → VK → Prop} {g : List D → List D → Option (D × List D)} {gs : DS S → Option (List D)} (hr : MtD K r g) {σ : L2.St} {H : Hp} {Q : VK} (w : tX K R (xMtF i x f g gs) σ H Q) : tBM K "list" r (tFld K (tVar i) f) (tPA K gs) σ H Q := by
  obtain ⟨G, F, ds, d, ds', rs, e, k⟩ := w
  unfold xMtF at e
  cases eo : objAt ds i x with
  | none => rw [eo] at e; cases e
  | some fs =>
    rw [eo, Option.bind_some] at e
    cases el : lstF f fs with
    | none => rw [el] at e; cases e
    | some xs =>
      rw [el, Option.bind_some] at e
      cases ea : gs (hideDS ds) with
      | none => rw [ea] at e; cases e
      | some as =>
        rw [ea, Option.bind_some] at e
        cases eg : g xs as with
        | none => rw [eg] at e; cases e
        | some q =>
          rw [eg] at e
          cases e
          obtain ⟨v0, hv0, p, C', dx, vs, f1, rfl, hc, hp, hf, np, hfp⟩ := rs.own i _ (objAt_some eo)
          have : C' = C := by rw [cx.ns] at hc; cases hc; rfl
          subst this
          obtain ⟨a, ws, hl, ha, hz, hd, hfa, _⟩ := hf.getl el
          refine ⟨_, hv0, p, C', dx, vs, .ref a, rfl, hp, cx.cl, na, hl, ty_own a ws H ha, G, hideDS ds, as, rs.sub, rs.view, ea, fun wv G1 H1 g1 d1 => ?_⟩
          have r1 := rs.grow g1
          have hf1 : FsAt K G1 H1 vs fs f1 := hf.mono g1.keep fun b hb => by
            cases z : H b with
            | none => exact absurd z (hf.trk b hb)
            | some u => exact (g1.all b u z).nt (hf.ntb b hb u z)
          obtain ⟨a', ws', hl', ha', hz', hd', hfa', upd'⟩ := hf1.getl el
          rw [hl] at hl'
          cases hl'
          have hFa : F i a := (hfp a).mpr (.inr hfa)
          refine hr a ws' xs as wv q.1 q.2 G1 H1 Q r1.sub ha' (r1.dis i a hFa) hz' hd' d1 eg fun u us zu du dv => ?_
          have nap : p ≠ a := fun z => np (z ▸ hfa)
          obtain ⟨r2, s2⟩ := r1.putMO (m1 := .obj x (putFV f (.l q.2) fs)) (fp := F i) (fr := fun _ => False) (o := .lst us) (objAt_some eo) hv0 hFa
            ⟨p, C', dx, vs, f1, rfl, hc, by rw [upd_ne nap]; exact g1.all.nt hp, upd' _ us q.2 (fun b hb hn => upd_ne hn) upd_same zu du, np, hfp⟩ (fun b hb => .inl hb) (fun _ z => z.elim) fun _ z => z.elim
          exact k u G1 _ _ r2 (g1.step.trans ⟨fun b hb => s2.frame b fun z => z.elim hb False.elim, s2.keep, s2.sub, fun b hb => .inl hb, fun b hb => (s2.newf b hb).elim (fun z => z.elim .inl False.elim) .inr⟩) dv
section
variable {a : Expr} {gs : DS S → Option (List D)}
theorem ex_appF (cx : ClsX X.K x C) (na : NoAttr X.K C f) (ho : PE X o (tVar i)) (ha : PA X (e :: es) (tPA X.K gs)) (hb : attributeBase o f X.env (eval o X.env) = eval o X.env := by rfl) (hbase : attributeBase (.Attribute o f pos) "append" X.env (eval (.Attribute o f pos) X.env) = eval (.Attribute o f pos) X.env := by rfl)
    (hfew : ((backTo cpos (starEach (e :: es) X.env)).all (fun x => !x.1) && (backToKw cpos (keywordEach [] X.env)).all (fun x => x.1.isSome) && decide ((e :: es).length + ([] : List Keyword).length + (if ([] : List Keyword).isEmpty then 0 else 1) < 30)) = true := by rfl)
    (hline : (apos.endLine == cpos.line) = true := by rfl) (hs : starEach (e :: es) X.env = (false, eval e X.env) :: starEach es X.env := by rfl) (hplain : (backTo cpos (starEach es X.env)).any (·.1) = false := by rfl) :
    PE X (.Call (.Attribute (.Attribute o f pos) "append" apos) (e :: es) [] cpos) (tX X.K R (xMtF i x f appD gs)) := PE.imp (pe_bm PySem.F.plainAttrs_list PySem.F.slot_list_append PySem.F.type_list_append mt_append (pe_fld ho hb) ha hbase hfew hline hs hplain) fun _ _ _ h => x_mtF cx na d_app h
end
theorem run_makeG {CT : CXT} {fa : Addr} {fd : FuncData} {ps : List Str} {sp : Sp} {E : XK} {pins : List (Addr × Obj)} {σ : L2.St} {H : Hp} {s : Shared} {Q : VK} {us : List Value} {vs : List V} (M : Mk X.K C fa) (F : FnG X.prog X.w X.K X.mg X.base CT k fa fd ps sp) (hr : Room (k + 1) X.A) (hgd : X.A.guards = some []) (hb : Binds X.K fd ps [])
    (hx : Passes CT X E) (I : Inv X pins σ H s) (r : Vals vs us)
    (h : ∀ x dx, H x = none → H dx = none → dx ≠ x → sp (.ref x :: vs) (upd (upd H dx (.own x)) x (.ins C dx [])) (fun v H2 => v = .non ∧ Q (.ref x) H2) E) :
    wpAny (model X.prog X.w) X.A (call (.ref C) us) (EP X pins σ Q) X.xe s := by
  have hq := h (s.heap.objs.size + 1) s.heap.objs.size (I.hok.fresh (Nat.le_succ _)) (I.hok.fresh (Nat.le_refl _)) (Nat.ne_of_lt (Nat.lt_succ_self _))
  have I2 := Inv.made (C := C) I
  have r2 : Vals (V.ref (s.heap.objs.size + 1) :: vs) (Value.ref (s.heap.objs.size + 1) :: us) := .cons rfl r
  have hl : ((Value.ref (s.heap.objs.size + 1) :: us) ++ ([] : List Value)).length = ps.length := by
    have e := r2.length
    rw [F.len _ _ _ _ hq] at e
    rw [List.append_nil]
    exact e.symm
  have hbind := hb _ (Value.ref (s.heap.objs.size + 1) :: us) I2.kIn hl
  rw [List.append_nil] at hbind
  refine wpAny_call (make_map (f := fa) I.kIn M.makes M.init (beq_iff_eq.mp M.fn) (codeAny_mono (F.run _ X.stack _ _ ⟨Value.ref (s.heap.objs.size + 1) :: us, []⟩ (Value.ref (s.heap.objs.size + 1) :: us) _ _ E (hr.make C us []) (by first | exact hgd | (simpa [Around.under] using hgd))
    (I2.env0.make C us []) hbind r2 hq) fun r s' hq' => ?_))
  cases r with
  | error e => exact hx pins σ _ _ e s' I2 hq'
  | ok fl =>
    cases fl with
    | ret u =>
      obtain ⟨v, H', I3, rv, ev, q3⟩ := I2.after hq'
      subst ev
      exact ⟨rv, ⟨V.ref (s.heap.objs.size + 1), H', I3, rfl, q3⟩⟩
    | next => exact False.elim hq'
    | brk => exact False.elim hq'
    | cont => exact False.elim hq'
theorem pe_makeG {CT : CXT} {fa : Addr} {fd : FuncData} {ps : List Str} {sp : Sp} {E : XK} {t : TA} {p : Pos} (M : Mk X.K C fa) (F : FnG X.prog X.w X.K X.mg X.base CT k fa fd ps sp) (hr : Room (k + 1) X.A) (hgd : X.A.guards = some []) (hg : Gl X x) (hm : X.mg x = some (.ref C)) (hb : Binds X.K fd ps []) (hx : Passes CT X E)
    (ha : PA X (e :: es) t) (hdb : (x == ("__debug__" : Str)) = false := by decide) (he : starEach (e :: es) X.env = (false, eval e X.env) :: starEach es X.env := by rfl) (hpl : (backTo pos (starEach es X.env)).any (·.1) = false := by rfl) :
    PE X (.Call (.Name x p) (e :: es) [] pos) (tMake C sp [] E t) := by
  refine ⟨fun pins s σ H Q I h => ?_⟩
  refine wpAny_Call_Name_kw (ld_glob I hg hm ?_ hdb)
  refine PySem.W.callWith_K (h₀ := X.base) I.ok.mod.kin M.kp (thn (ha.run pos pins s σ H _ I h) fun us s1 ⟨vs, H1, I1, r, q⟩ => ⟨I1.kIn, ?_⟩) he hpl
  refine run_makeG M F hr hgd hb hx I1 r fun y dx n1 n2 n3 => ?_
  have q2 := q y dx n1 n2 n3
  rw [List.append_nil] at q2
  exact q2
structure ClK (P : Program) (w : World) (K : PySem.W.Frag) (mg : Str → Option Value) (base : Heap) (k : Nat) (C : Addr) (x : Str) (sp : Sp) : Prop where
  ex : ∃ f fd ps, FnG P w K mg base CX0 k f fd ps sp ∧ Binds K fd ps [] ∧ Mk K C f ∧ mg x = some (.ref C)
def oMake (x : Str) (n : Nat) (F : Fls → List D → Option (MO S × Fls)) (fa : XF S (List D)) : XF S (MO S) := xb fa fun as => xlift (if as.length + 1 = n then (F [] as).bind fun q => match q.1 with
  | .d .none => some (.obj x q.2)
  | _ => none else none)
theorem o_make {K : PySem.W.Frag} (cx : ClsX K x C) {F : Fls → List D → Option (MO S × Fls)} {fa : XF S (List D)} {σ : L2.St} {H : Hp} {Q : VK} (h : tO K R (oMake x n F fa) σ H Q) : tMake C (spB K R x n F) [] E0 (tXA K R fa) σ H Q := by
  obtain ⟨G, F0, ds, m0, ds', rs, e, k⟩ := h
  obtain ⟨as, ds1, ea, e⟩ := xb_some e
  obtain ⟨eq, e9⟩ := xlift_some e
  subst e9
  split at eq
  · rename_i hn
    cases ef : F [] as with
    | none => rw [ef] at eq; cases eq
    | some q =>
      rw [ef, Option.bind_some] at eq
      obtain ⟨mr, fs'⟩ := q
      dsimp only at eq
      split at eq
      · cases eq
        refine ⟨G, F0, ds, as, _, rs, ea, fun vs G1 H1 F1 r1 s1 d1 => ?_⟩
        intro y dx ny ndx nex
        show spB K R x n F (V.ref y :: (vs ++ [])) _ _ E0
        rw [List.append_nil]
        have back : ∀ b u, H1 b = some u → (upd (upd H1 dx (.own y)) y (.ins C dx [])) b = some u := fun b u z => by rw [upd_ne (ne_of_none z ny), upd_ne (ne_of_none z ndx)]; exact z
        have none1 : ∀ b, (upd (upd H1 dx (.own y)) y (.ins C dx [])) b = none → H1 b = none := fun b z => by
          cases w : H1 b with
          | none => rfl
          | some u => rw [back b u w] at z; cases z
        refine ⟨by rw [List.length_cons, d1.length]; exact hn, G1, fun a => a = y, .ref y, vs, [], as, .d .none, fs', rfl, r1.sub.more back, ⟨y, C, dx, [], fun _ => False, rfl, cx.ns, upd_same, .nil (fun _ z => z), id, fun a => ⟨.inl, fun z => z.elim id False.elim⟩⟩, fun a ha => by rw [ha]; exact r1.sub.free ny, d1, ef, fun v G3 H3 fp' fr s3 o3 om h1 h2 => ⟨?_, ?_⟩⟩
        · have dn := om.1
          cases dn
          rfl
        · have gr : Gr G1 H1 G3 H3 := ⟨s3.keep, s3.sub, fun a u z => s3.frame a (fun w => by rw [w, ny] at z; cases z) u (back a u z), fun b hb => by
            rcases s3.new0 b hb with z | z | z
            · exact .inl z
            · exact .inr (none1 b z)
            · exact .inr (by rw [z]; exact ny)⟩
          have nw : ∀ b, fp' b → H1 b = none := fun b hb => (s3.newf b (.inl hb)).elim (fun z => by rw [z]; exact ny) (none1 b)
          exact k _ G3 H3 F1 fp' (r1.grow gr) (s1.trans ⟨gr.step (P := fun a => ∃ i, F1 i a).frame, gr.keep, gr.sub, gr.step.new0, fun b hb => hb.elim .inl fun z => .inr (nw b z)⟩) o3 (fun a ha ⟨i, hi⟩ => r1.trk i a hi (nw a ha)) fun a ha => h2 a (.inl ha)
      · cases eq
  · cases eq
theorem co_make {p : Pos} {F : Fls → List D → Option (MO S × Fls)} {fa : XF S (List D)} (ck : ClK X.prog X.w X.K X.mg X.base j C x (spB X.K R x n F)) (cx : ClsX X.K x C) (hk : j + 1 ≤ k) (hr : Room k X.A) (hgd : X.A.guards = some []) (hg : Gl X x) (ha : PA X (e :: es) (tXA X.K R fa))
    (hdb : (x == ("__debug__" : Str)) = false := by decide) (he : starEach (e :: es) X.env = (false, eval e X.env) :: starEach es X.env := by rfl) (hpl : (backTo pos (starEach es X.env)).any (·.1) = false := by rfl) :
    PE X (.Call (.Name x p) (e :: es) [] pos) (tO X.K R (oMake x n F fa)) := by
  obtain ⟨f, fd, ps, Fn, hb, hM, hm⟩ := ck.ex
  exact PE.imp (pe_makeG hM Fn (hr.mono hk) hgd hg hm hb pass0 ha hdb he hpl) fun _ _ _ h => o_make cx h
end
end
section
variable {TBL : TabL}
section
variable {S : Type}
section
variable {K : PySem.W.Frag} {R : StI S} {G H : Hp}
theorem OwnAll.iff {vs : List V} {ms : List (MO S)} {fp fq : Addr → Prop} (h : OwnAll K R G H vs ms fp) (e : ∀ a, fq a ↔ fp a) : OwnAll K R G H vs ms fq := by
  have : fq = fp := funext fun a => propext (e a)
  rw [this]
  exact h
end
section
variable {K : PySem.W.Frag} {R : StI S} {P : Program} {w : World} {mg : Str → Option Value} {base : Heap} {x qual : Str} {st : Stmt} {f : Addr} {fd : FuncData} {N ps : List Str} {k : Nat} {g : SF S}
end
variable {X : Cx} {R : StI S} {e o : Expr} {es : List Expr} {x f m : Str} {pos p : Pos} {i j k n : Nat}
def oCallU (n i : Nat) (F : List D → List D → Option (MO S × List D)) (fs : XF S (List D)) : XF S (MO S) := fun ds0 => (lstAt ds0 i).bind fun _ => xb fs (fun as => fun ds => (lstAt ds i).bind fun s => if as.length + 1 = n then (F s as).map fun q => (q.1, ds.set i (some (.lst q.2))) else none) ds0
def oCallM (n i : Nat) (F : List (MO S) → Option (MO S × List (MO S))) (fo : XF S (List (MO S))) : XF S (MO S) := fun ds0 => (lstAt ds0 i).bind fun _ => xb fo (fun mos => fun ds => (lstAt ds i).bind fun s => if mos.length + 1 = n then (F (.lst s :: mos)).bind fun q => match q.2 with
  | .lst ys :: _ => some (q.1, ds.set i (some (.lst ys)))
  | _ => none else none) ds0
end
end
open RZ
section
variable {TBL : TabL}
def zipTL : List D → Option (List D)
  | [.tuple xs, .list ys] => some (zipD xs ys)
  | _ => none
section
variable {S : Type} {X : Cx} {e e2 : Expr} {g1 : DS S → Option (List D)} {p pos tpos : Pos} {elts : List Expr} {kk : Nat}
end
end
section
variable {TBL : TabL}
def decK : List (D × D) → Option (List (Key × D))
  | [] => some []
  | p :: r => (keyOf1 p.1).bind fun k => (decK r).map fun l => (k, p.2) :: l
theorem keyOf1_kD : ∀ k : Key, keyOf1 (kD k) = some k
  | .inl _ => rfl
  | .inr _ => rfl
theorem decK_enc : ∀ kvs : List (Key × D), decK (encKs kvs) = some kvs
  | [] => rfl
  | (k, d) :: r => by
    show (keyOf1 (kD k)).bind (fun k => (decK (encKs r)).map fun l => (k, d) :: l) = _
    rw [keyOf1_kD, decK_enc r]
    rfl
def ixK (x y : D) : Option D := match x with
  | .dict ((.none, .bool true) :: es) => (decK es).bind fun kvs => (keyOf1 y).bind fun k => lookD kvs k
  | _ => none
section
variable {S : Type} {X : Cx} {R : StI S} {a b c e o i : Expr} {es : List Expr} {f : Str} {pos p p2 apos cpos : Pos} {j k n : Nat}
def gDGetN (j : Nat) (g : DS S → Option D) : DS S → Option D := fun ds => (gDLook j g ds).map fun o => o.getD .none
def xScLen (j : Nat) : XF S D := fun ds => (scrAt ds j).map fun ns => (.int (ns.length : Nat), ds)
theorem ex_scrLen (hg : Gl X "len") (hm : X.mg "len" = none) (ho : PE X o (tVar j)) (he : starEach [o] X.env = (false, eval o X.env) :: starEach [] X.env := by rfl) (hpl : (backTo pos (starEach [] X.env)).any (·.1) = false := by rfl) :
    PE X (.Call (.Name "len" p) [o] [] pos) (tX X.K R (xScLen j)) :=
  PE.imp (pe_callB call_len hg hm PySem.boot_len (pa_cons ho pa_nil he) (by decide) (by decide) he hpl) fun σ H Q ⟨G, F, ds, d, ds', r, e, k⟩ => by
    unfold xScLen at e
    cases ed : scrAt ds j with
    | none => rw [ed] at e; cases e
    | some ns =>
      rw [ed] at e
      cases e
      obtain ⟨v, hv, ⟨a, rfl, sq⟩, _⟩ := r.own j _ (scrAt_some ed)
      refine ⟨_, hv, _, _, rfl, .inl ⟨_, sql_mono r.sub sq, rfl⟩, ?_⟩
      rw [List.length_map]
      exact k _ G H F r (.refl r.sub) (.int _)
end
end
section
variable {TBL : TabL}
section
variable {S : Type} {X : Cx} {R : StI S} {a b c e o i tg : Expr} {es : List Expr} {x f : Str} {C : Addr} {pos pos' p p2 apos cpos q : Pos} {j k n : Nat}
def xScIx (j : Nat) (f : XF S D) : XF S D := fun ds => (scrAt ds j).bind fun _ => (f ds).bind fun q => (scrAt q.2 j).bind fun ns => match q.1 with
  | .int i => (atI ns i).map fun z => (.int z, q.2)
  | _ => none
def stepD : D → Option Int → Option (List D)
  | .list ys, some k => if k = 1 then some ys else if k = -1 then some ys.reverse else none
  | _, _ => none
def oStep (fa : XF S D) (fs : XF S (Option Int)) : XF S (MO S) := xb fa fun x => xb fs fun o => xlift ((stepD x o).map .lst)
def oIf (h : XF S Bool) (fa fb : XF S (MO S)) : XF S (MO S) := xb h fun b => if b then fa else fb
end
end
section
variable {TBL : TabL}
section
variable {S : Type} {K : PySem.W.Frag} {R : StI S} {ds : DS S} {σ : L2.St} {G H : Hp} {F : Nat → Addr → Prop}
def xFrz (i : Nat) : XF S D := fun ds => match ds[i]? with
  | some (some (.lst xs)) => some (.list xs, ds.set i (some (.d (.list xs))))
  | some (some (.d x)) => some (x, ds)
  | _ => none
end
end
section
variable {TBL : TabL}
def inK (b : Bool) (y x : D) : Option D := match x with
  | .dict ((.none, .bool true) :: es) => (decK es).bind fun kvs => (keyOf1 y).map fun k => .bool (if b then (lookD kvs k).isSome else !(lookD kvs k).isSome)
  | _ => none
section
variable {S : Type} {X : Cx} {R : StI S} {a b c e o i : Expr} {pos p p2 apos cpos : Pos}
end
end
section
variable {TBL : TabL}
section
variable {S : Type} {K : PySem.W.Frag} {R : StI S} {pn : List Nat} {Dn : Ends} {σ : L2.St} {H : Hp} {g : SF S}
end
section
variable {S : Type} {X : Cx} {R : StI S} {pn : List Nat} {tg iter e o : Expr} {es : List Expr} {rest : List Stmt} {pos apos cpos : Pos} {g : SF S}
end
end
section
variable {TBL : TabL}
section
variable {S : Type} {X : Cx} {R : StI S} {o i e : Expr} {j : Nat} {pos pos2 : Pos} {pn : List Nat}
def gDPutB (j : Nat) (f : XF S D) (g : DS S → Option D) : SF S := fun ds => (f ds).bind fun p => (dicKs p.2 j).bind fun kvs => (g p.2).bind fun x => (keyOf1 x).bind fun k => if kvs.length < sizeLine then some (.nx (p.2.set j (some (.dic (putD kvs k p.1))))) else none
end
end
section
variable {TBL : TabL}
section
variable {S : Type} {X : Cx} {R : StI S} {e o i : Expr} {j : Nat} {pos : Pos}
end
end
section
variable {TBL : TabL}
structure TopLst (K : PySem.W.Frag) (mg : Str → Option Value) (x : Str) (ks : List Str) : Prop where
  ex : ∃ (a : Addr) (o : Obj) (its : Array Value) (n : Nat), mg x = some (.ref a) ∧ K.lookup a = some o ∧ o.cls = .type "list" ∧ o.dict = none ∧ o.data = .seq its n ∧ Vals (ks.map V.str) its.toList
section
variable {S : Type} {X : Cx} {e : Expr} {pos q : Pos} {x : Str} {ks : List Str}
end
end
section
variable {TBL : TabL}
section
variable {S : Type} {X : Cx} {a : Expr} {p p2 q pos : Pos}
end
end
section
variable {TBL : TabL}
section
variable {K : PySem.W.Frag} {G G' H H' : Hp}
theorem FVAt.off {v : V} {m : FV} {fp : Addr → Prop} (h : FVAt K G H v m fp) (s : SameX G G') (k : ∀ a, fp a → H' a = H a) : FVAt K G' H' v m fp := by
  cases m with
  | d x => exact ⟨h.1.off s, h.2⟩
  | l xs =>
    obtain ⟨p, vs, e0, e, z, d, q⟩ := h
    exact ⟨p, vs, e0, by rw [k p ((q p).mpr rfl)]; exact e, z, d.off s, q⟩
  | k kvs =>
    obtain ⟨p, xs, e0, e, z, d, q⟩ := h
    exact ⟨p, xs, e0, by rw [k p ((q p).mpr rfl)]; exact e, z, d.off s, q⟩
theorem FsAt.off : ∀ {vs : List (Str × V)} {fs : List (Str × FV)} {fp : Addr → Prop}, FsAt K G H vs fs fp → SameX G G' → (∀ a, fp a → H' a = H a) → FsAt K G' H' vs fs fp
  | _, _, _, .nil n, s, k => .nil n
  | _, _, _, .cons h r d e, s, k => .cons (h.off s fun a ha => k a ((e a).mpr (.inl ha))) (FsAt.off r s fun a ha => k a ((e a).mpr (.inr ha))) d e
end
section
variable {S : Type} {K : PySem.W.Frag} {R : StI S} {G G' H H' : Hp} {v : V} {m : MO S} {fp : Addr → Prop} {ds : DS S} {σ : L2.St} {F : Nat → Addr → Prop} {pn : List Nat} {g : SF S} {Dn : Ends} {j : Nat}
def noLkM : Option (MO S) → Bool
  | some (.lk _) => false
  | _ => true
theorem noL_off {G G' : Hp} (s : SameX G G') : SameX (noL G) (noL G') := fun b o e n => by
  obtain ⟨h, h1, h2, h3⟩ := noL_of e
  exact noL_mk (s b o h n) h1 h2 h3
theorem ovr_off {B G G' : Hp} (s : SameX G G') : SameX (ovr B G) (ovr B G') := fun b o e n => by
  unfold ovr at e ⊢
  cases h : B b with
  | some u => rw [h] at e; exact e
  | none => rw [h] at e; exact s b o e n
theorem OwnAt.off (h : OwnAt K R G H v m fp) (nl : noLkM (some m) = true) (s : SameX G G') (k : ∀ a, fp a → H' a = H a) : OwnAt K R G' H' v m fp := by
  cases m with
  | d x => exact ⟨h.1.off s, h.2⟩
  | lst xs =>
    obtain ⟨p, vs, e0, e, z, d, q⟩ := h
    exact ⟨p, vs, e0, by rw [k p ((q p).mpr rfl)]; exact e, z, d.off s, q⟩
  | st t => exact R.frame h s k
  | scr ns =>
    obtain ⟨⟨a, e, q⟩, n⟩ := h
    refine ⟨⟨a, e, ?_⟩, n⟩
    rcases q with (q | ⟨o, q⟩) | q
    · exact .inl (.inl (s _ _ q fun _ _ y => nomatch y))
    · exact .inl (.inr ⟨o, s _ _ q fun _ _ y => nomatch y⟩)
    · exact .inr q
  | dic kvs =>
    obtain ⟨p, xs, e0, e, z, d, q⟩ := h
    exact ⟨p, xs, e0, by rw [k p ((q p).mpr rfl)]; exact e, z, d.off s, q⟩
  | lk kvs => cases nl
  | dp x =>
    obtain ⟨B, e, q, d⟩ := h
    exact ⟨B, e, ⟨fun a o eb => by rw [k a ((e a).mpr (by rw [eb]; exact nofun))]; exact q.1 a o eb, q.2⟩, d.off (ovr_off (noL_off s))⟩
  | obj x fs =>
    obtain ⟨p, C, dx, vs, f1, e0, c, e, q, np, n⟩ := h
    exact ⟨p, C, dx, vs, f1, e0, c, by rw [k p ((n p).mpr (.inl rfl))]; exact e, q.off s fun a ha => k a ((n a).mpr (.inr ha)), np, n⟩
def lkAt (ds : DS S) (j : Nat) : Option (List (Key × D)) := match ds[j]? with
  | some (some (.lk kvs)) => some kvs
  | _ => none
def xKeysL (j : Nat) : XF S (List D) := fun ds => (lkAt ds j).map fun kvs => (kvs.map fun p => kD p.1, ds)
theorem KVsD.at : ∀ {xs : List (Key × V)} {kvs : List (Key × D)} {i : Nat} {k : Key} {v : V}, KVsD K G xs kvs → xs[i]? = some (k, v) → (kvs.map fun p => kD p.1)[i]? = some (kD k) ∧ Den K G (kV k) (kD k)
  | _, _, _, _, _, .nil, e => by simp at e
  | _, _, 0, _, _, .cons a b r, e => by cases e; exact ⟨rfl, a⟩
  | _, _, i + 1, _, _, .cons a b r, e => KVsD.at (i := i) r e
def gLock (j : Nat) (g : SF S) : SF S := fun ds => (dicKs ds j).bind fun kvs => (g (ds.set j (some (.lk kvs)))).bind fun o => match o with
  | .nx ds' => (lkAt ds' j).bind fun k2 => if ((ds'.set j none).all noLkM) = true then some (.nx (ds'.set j (some (.dic k2)))) else none
  | _ => none
end
section
variable {S : Type} {X : Cx} {R : StI S} {pn : List Nat} {tg iter o : Expr} {rest : List Stmt} {st : Stmt} {pos : Pos} {g : SF S}
def gForK (j : Nat) (t : D → Option (List (Nat × D))) (body : SF S) : SF S := gLock j (gFor (xKeysL j) t body)
end
end
section
variable {TBL : TabL}
def primD : D → Bool
  | .none => true | .bool _ => true | .int _ => true | .str _ => true
  | _ => false
def refD : D → Bool
  | .list _ => true | .tuple _ => true
  | _ => false
mutual
/-- each list within begins with a reference; no dict within -/
def apD : D → Bool
  | .none => true | .bool _ => true | .int _ => true | .str _ => true
  | .list [] => false
  | .list (x :: xs) => refD x && (apD x && apAll xs)
  | .tuple xs => apAll xs
  | .dict _ => false
def apAll : List D → Bool
  | [] => true
  | x :: xs => apD x && apAll xs
end
section
variable {S : Type}
def apS : Option (MO S) → Bool
  | some (.lst []) => true
  | some (.lst (x :: _)) => primD x
  | some (.obj _ _) => false
  | _ => true
def keepI (is : List Nat) (ds : DS S) : DS S := ds.mapIdx fun i m => if is.contains i then m else none
variable {K : PySem.W.Frag} {R : StI S} {G H G' H' B : Hp} {ds : DS S} {σ : L2.St} {F : Nat → Addr → Prop} {is : List Nat}
theorem keepI_get {i : Nat} : (keepI is ds)[i]? = (ds[i]?).map fun m => if is.contains i then m else none := by
  unfold keepI
  rw [List.getElem?_mapIdx]
theorem RS.keepI (r : RS K R ds σ G H F) : RS K R (keepI is ds) σ G H (fun i a => F i a ∧ is.contains i = true) := by
  refine ⟨r.sub, by unfold DL.keepI; rw [List.length_mapIdx]; exact r.len, fun i m em => ?_, fun i n a ha => ?_, fun i i' a h1 h2 => r.dj i i' a h1.1 h2.1, fun i a ha => r.dis i a ha.1⟩
  · rw [keepI_get] at em
    obtain ⟨m0, e0, e1⟩ := Option.map_eq_some_iff.mp em
    by_cases hc : is.contains i = true
    · rw [if_pos hc] at e1
      subst e1
      obtain ⟨u, hu, ou⟩ := r.own i m e0
      exact ⟨u, hu, ou.iff fun a => ⟨fun y => y.1, fun y => ⟨y, hc⟩⟩⟩
    · rw [if_neg hc] at e1
      cases e1
  · refine r.emp i (fun m em => n m ?_) a ha.1
    rw [keepI_get, em]
    show some (if is.contains i = true then some m else none) = _
    rw [if_pos ha.2]
theorem den_ref {v : V} {x : D} (h : Den K G v x) (e : refD x = true) : ∃ a, v = .ref a := by
  cases h with
  | non => cases e
  | bl b => cases e
  | int i => cases e
  | str x _ _ => cases e
  | lst _ _ _ => exact ⟨_, rfl⟩
  | tup _ _ _ => exact ⟨_, rfl⟩
  | emp _ => cases e
  | dct _ _ _ => cases e
  | obj _ _ _ => cases e
mutual
theorem Den.apart (hl : ∀ a w vs, G a = some (.lst (.ref w :: vs)) → G' a = some (.lst (.ref w :: vs))) (h : ∀ a o, G a = some o → (∀ vs, o ≠ .lst vs) → (∀ xs, o ≠ .dK xs) → (∀ C dx fs, o ≠ .ins C dx fs) → G' a = some o) : ∀ {v : V} {d : D}, Den K G v d → apD d = true → Den K G' v d
  | _, _, .non, _ => .non
  | _, _, .bl b, _ => .bl b
  | _, _, .int i, _ => .int i
  | _, _, .str x z o, _ => .str x z o
  | _, .list (x :: xs), .lst q z (.cons d0 r), e => by
    unfold apD at e
    obtain ⟨e1, e⟩ := Bool.and_eq_true_iff.mp e
    obtain ⟨e2, e3⟩ := Bool.and_eq_true_iff.mp e
    obtain ⟨w, rfl⟩ := den_ref d0 e1
    exact .lst (hl _ _ _ q) z (.cons (Den.apart hl h d0 e2) (DenAll.apart hl h r e3))
  | _, .list [], _, e => by unfold apD at e; cases e
  | _, .tuple _, .tup q z r, e => by
    unfold apD at e
    exact .tup (q.keep fun o q2 => h _ _ q2 frz_nl frz_nd frz_ni) z (DenAll.apart hl h r e)
  | _, _, .emp _, e => by unfold apD at e; cases e
  | _, _, .dct _ _ _, e => by unfold apD at e; cases e
  | _, _, .obj _ _ _, e => by unfold apD at e; cases e
theorem DenAll.apart (hl : ∀ a w vs, G a = some (.lst (.ref w :: vs)) → G' a = some (.lst (.ref w :: vs))) (h : ∀ a o, G a = some o → (∀ vs, o ≠ .lst vs) → (∀ xs, o ≠ .dK xs) → (∀ C dx fs, o ≠ .ins C dx fs) → G' a = some o) : ∀ {vs : List V} {ds : List D}, DenAll K G vs ds → apAll ds = true → DenAll K G' vs ds
  | _, _, .nil, _ => .nil
  | _, _, .cons d r, e => by
    unfold apAll at e
    obtain ⟨e1, e2⟩ := Bool.and_eq_true_iff.mp e
    exact .cons (Den.apart hl h d e1) (DenAll.apart hl h r e2)
end
end
section
variable {S : Type} {K : PySem.W.Frag} {R : StI S} {n : Nat}
def xCallA (n : Nat) (is : List Nat) (F : List D → Option (MO S)) (gs : DS S → Option (List D)) : XF S D := fun ds => (gs (keepI is ds)).bind fun as => if as.length = n then (F as).bind fun m => match m with
  | .lst xs => if (apAll xs && (keepI is ds).all apS) = true then some (.list xs, ds) else none
  | _ => none
  else none
end
section
variable {S : Type} {X : Cx} {R : StI S} {e : Expr} {es : List Expr} {x : Str} {n j k : Nat} {p pos : Pos} {is : List Nat}
end
end
section
variable {TBL : TabL}
section
variable {K : PySem.W.Frag}
end
end
section
variable {TBL : TabL}
section
variable {S : Type} {K : PySem.W.Frag} {R : StI S} {ds : DS S} {σ : L2.St} {G H : Hp} {F : Nat → Addr → Prop}
def xFrzK (i : Nat) : XF S D := fun ds => match ds[i]? with
  | some (some (.dic kvs)) => some (.dict ((.none, .bool true) :: encKs kvs), ds.set i (some (.d (.dict ((.none, .bool true) :: encKs kvs)))))
  | _ => none
end
end
section
variable {TBL : TabL}
section
variable {prog : Program} {w : World} {A : Around} {E : Value → Shared → Prop} {s : Shared}
open PySem.W PySem.Calls in
open PySem.W in
end
section
variable {X : Cx} {K : PySem.W.Frag}
end
end
section
variable {TBL : TabL}
theorem ne_l {vs : List V} : ∀ f, HO.lst vs ≠ .ext f := by intro _ y; cases y
theorem ne_t {o : Obj} {vs : List V} : ∀ f, HO.frz o (.tup vs) ≠ .ext f := by intro _ y; cases y
theorem ne_d {ys : List (Key × V)} : ∀ f, HO.dK ys ≠ .ext f := by intro _ y; cases y
theorem ne_i {C dx : Addr} {fs : List (Str × V)} : ∀ f, HO.ins C dx fs ≠ .ext f := by intro _ y; cases y
def SameE (G G' : Hp) : Prop := ∀ b o, G b = some o → (∀ f, o ≠ .ext f) → G' b = some o
section
variable {K : PySem.W.Frag} {G G' : Hp}
mutual
theorem Den.offE (s : SameE G G') : ∀ {v : V} {d : D}, Den K G v d → Den K G' v d
  | _, _, .non => .non
  | _, _, .bl b => .bl b
  | _, _, .int i => .int i
  | _, _, .str x h o => .str x h o
  | _, _, .lst e z r => .lst (s _ _ e ne_l) z (DenAll.offE s r)
  | _, _, .tup q z r => .tup (q.keep fun o e => s _ _ e ne_t) z (DenAll.offE s r)
  | _, _, .emp e => .emp (s _ _ e ne_d)
  | _, _, .dct e z r => .dct (s _ _ e ne_d) z (DenKV.offE s r)
  | _, _, .obj e n r => .obj (s _ _ e ne_i) n (DenFs.offE s r)
theorem DenKV.offE (s : SameE G G') : ∀ {vs : List (Key × V)} {ds : List (D × D)}, DenKV K G vs ds → DenKV K G' vs ds
  | _, _, .nil => .nil
  | _, _, .cons k h r => .cons (Den.offE s k) (Den.offE s h) (DenKV.offE s r)
theorem DenAll.offE (s : SameE G G') : ∀ {vs : List V} {ds : List D}, DenAll K G vs ds → DenAll K G' vs ds
  | _, _, .nil => .nil
  | _, _, .cons h r => .cons (Den.offE s h) (DenAll.offE s r)
theorem DenFs.offE (s : SameE G G') : ∀ {vs : List (Str × V)} {ds : List (D × D)}, DenFs K G vs ds → DenFs K G' vs ds
  | _, _, .nil => .nil
  | _, _, .cons h r => .cons (Den.offE s h) (DenFs.offE s r)
end
end
section
variable {S : Type} {K : PySem.W.Frag} {R : StI S} {ds : DS S} {σ : L2.St} {G H : Hp} {F : Nat → Addr → Prop}
end
section
variable {S : Type} {X : Cx} {R : StI S} {k j n : Nat} {x : Str} {p pos : Pos} {e : Expr} {es : List Expr}
end
end
section
variable {TBL : TabL}
section
variable {S : Type} {K : PySem.W.Frag} {R : StI S} {ds : DS S} {σ σ' : L2.St} {G H G' H' : Hp} {F : Nat → Addr → Prop}
end
section
variable {S : Type} {iw ix : Nat} {z : Str}
end
section
variable {S : Type} {X : Cx} {R : StI S} {pn : List Nat} {tg iter o e : Expr} {es : List Expr} {body rest : List Stmt} {pos apos cpos bpos : Pos} {g0 g : SF S} {fs : XF S (List D)}
end
end
section
variable {TBL : TabL}
section
variable {K : PySem.W.Frag} {G : Hp}
end
end
section
variable {TBL : TabL}
section
variable {S : Type} {X : Cx} {R : StI S} {j : Nat} {o : Expr} {apos pos2 : Pos}
end
end
section
variable {TBL : TabL}
section
variable {S : Type} {K : PySem.W.Frag} {R : StI S} {ds : DS S} {σ : L2.St}
end
section
variable {S : Type} {X : Cx} {R : StI S} {n i j k l : Nat} {x : Str} {p pos : Pos} {e e2 : Expr} {es : List Expr}
end
end
section
variable {TBL : TabL}
theorem adj_rev (n : Nat) : Builtin.Slice.sliceAdjust none none (-1) (n : Int) = ((n : Int) - 1, -1) := by
  unfold Builtin.Slice.sliceAdjust
  simp
theorem places_rev (n : Nat) : Builtin.Slice.slicePlaces ((n : Int) - 1) (-1) (-1) = n := by
  unfold Builtin.Slice.slicePlaces
  rw [if_neg (by decide)]
  split
  · rw [show -(-1 : Int) = 1 by decide, Int.ediv_one]
    omega
  · omega
theorem fm_map {α β : Type} {f : α → Option β} {g : α → β} : ∀ {l : List α}, (∀ k ∈ l, f k = some (g k)) → l.filterMap f = l.map g
  | [], _ => rfl
  | a :: l, h => by
    rw [List.filterMap_cons, h a (by simp), List.map_cons, fm_map fun k hk => h k (List.mem_cons_of_mem _ hk)]
theorem pick_rev (xs : Array Value) : ((List.range xs.size).filterMap fun (k : Nat) => xs[(((xs.size : Int) - 1) + (k : Int) * (-1)).toNat]?).toArray = xs.toList.reverse.toArray := by
  have e : ((List.range xs.size).filterMap fun (k : Nat) => xs[(((xs.size : Int) - 1) + (k : Int) * (-1)).toNat]?) = xs.toList.reverse := by
    have h : ∀ l : List Value, ((List.range l.length).filterMap fun (k : Nat) => l[(((l.length : Int) - 1) + (k : Int) * (-1)).toNat]?) = l.reverse := fun l => by
      refine List.ext_getElem? fun i => ?_
      have e1 : (fun (k : Nat) => l[(((l.length : Int) - 1) + (k : Int) * (-1)).toNat]?) = fun k => l[l.length - 1 - k]? := by
        funext k
        have : (((l.length : Int) - 1) + (k : Int) * (-1)).toNat = l.length - 1 - k := by omega
        rw [this]
      rw [e1]
      have e2 : (List.range l.length).filterMap (fun k => l[l.length - 1 - k]?) = (List.range l.length).map (fun k => l.reverse.getD k .none) := by
        refine fm_map fun k hk => ?_
        have hk := List.mem_range.mp hk
        have h2 : l.length - 1 - k < l.length := by omega
        rw [List.getElem?_eq_getElem h2]
        show _ = some (l.reverse.getD k .none)
        rw [List.getD_eq_getElem?_getD, List.getElem?_reverse hk, List.getElem?_eq_getElem h2]
        rfl
      rw [e2, List.getElem?_map]
      by_cases hi : i < l.length
      · rw [List.getElem?_range hi, Option.map_some, List.getD_eq_getElem?_getD, List.getElem?_eq_getElem (by rw [List.length_reverse]; exact hi)]
        rfl
      · rw [List.getElem?_eq_none (by rw [List.length_range]; omega), List.getElem?_eq_none (by rw [List.length_reverse]; omega)]
        rfl
    have := h xs.toList
    rw [Array.length_toList] at this
    simpa using this
  rw [e]
section
variable {prog : Program} {w : World} {A : Around} {E : Value → Shared → Prop} {s : Shared}
theorem sliceApplied_rev {sl : Addr} {vl vu vs : Value} {n : Nat} {Q : Int × Int × Nat → Shared → Prop} (hs : s.heap.IsSliceOf sl vl vu vs) (pl : IsPart vl none) (pu : IsPart vu none) (ps : IsPart vs (some (-1)))
    (h : Q ((n : Int) - 1, -1, n) s) : wpAny (model prog w) A (Builtin.Slice.sliceApplied (.ref sl) (pure (n : Int))) Q E s := by
  obtain ⟨os, hos, hcs, hds⟩ := id hs
  unfold Builtin.Slice.sliceApplied Builtin.Slice.sliceFields
  refine wpAny_bind (wpAny_bind (wpAny_field hos hds (x := vl) rfl (wpAny_bind (wpAny_field hos hds (x := vu) rfl (wpAny_bind (wpAny_field hos hds (x := vs) rfl (wpAny_pure ?_)))))))
  refine wpAny_bind (HT.slicePart_ ps ?_)
  show wpAny _ _ (if ((-1 : Int) == 0) = true then _ else _) _ _ s
  rw [if_neg (by decide)]
  refine wpAny_bind (HT.slicePart_ pl (wpAny_bind (HT.slicePart_ pu (wpAny_bind (wpAny_pure ?_)))))
  show wpAny _ _ (match Builtin.Slice.sliceAdjust none none (-1) (n : Int) with | (lo, hi) => pure (lo, (-1 : Int), Builtin.Slice.slicePlaces lo hi (-1))) _ _ s
  rw [adj_rev]
  show wpAny _ _ (pure ((n : Int) - 1, (-1 : Int), Builtin.Slice.slicePlaces ((n : Int) - 1) (-1) (-1))) _ _ s
  rw [places_rev]
  exact wpAny_pure h
theorem getItem_tuple_rev {t sl : Addr} {items : Array Value} {vl vu vs : Value} {Q : Value → Shared → Prop} (ht : IsTup s.heap t items) (hs : s.heap.IsSliceOf sl vl vu vs) (pl : IsPart vl none) (pu : IsPart vu none) (ps : IsPart vs (some (-1)))
    (h : Q (.ref s.heap.objs.size) { s with heap := s.heap.push { cls := .type "tuple", data := .seq items.toList.reverse.toArray } })
    (hsz : items.size ≤ sizeLine) : wpAny (model prog w) A (getItem (.ref t) (.ref sl)) Q E s := by
  have htake : sizeOk (.seq items.toList.reverse.toArray) := by
    show items.toList.reverse.toArray.size ≤ sizeLine
    rw [List.size_toArray, List.length_reverse, Array.length_toList]
    exact hsz
  obtain ⟨os, hos, hcs, hds⟩ := id hs
  have hTs : s.TypeIs (.ref sl) "slice" := ⟨os, hos, hcs⟩
  unfold getItem
  try with_reducible refine wpAny_holding ?_
  first | refine wpAny_bind (wpAny_pure ?_) | skip
  refine wpAny_bind (wpAny_sequenceKey ht.typeIs (by decide) ?_)
  refine wpAny_bind (wpAny_callSpecial?_slot (name := Str.ofString "__getitem__") ht.typeIs PyProof.Rows.slot_tuple_getitem
    (wpAny_call_entry PyProof.Rows.slot_tuple_getitem ht.typeIs entry_tuple_getitem ?_ (args_tuple_getitem _ _)))
  show wpAny _ _ (Builtin.Tuple.tupleItemsOf (.ref t) >>= _) _ _ s
  refine wpAny_bind (tupleItemsOf_ ht ?_)
  refine wpAny_bind (wpAny_typeOf hTs ?_)
  rw [if_pos (by decide)]
  refine wpAny_bind (sliceApplied_rev hs pl pu ps ?_)
  have hno : ¬ ((((items.size : Int) - 1) == 0 && (-1 : Int) == 1 && items.size == items.size) = true) := by
    intro q
    rw [Bool.and_eq_true, Bool.and_eq_true] at q
    exact absurd q.1.2 (by decide)
  show wpAny _ _ (if (((items.size : Int) - 1) == 0 && (-1 : Int) == 1 && items.size == items.size) = true then _ else _) _ _ s
  rw [if_neg hno, pick_rev]
  first
    | exact wpAny_bind (m := Builtin.Tuple.tupleExact _) (wpAny_newObj_type (wpAny_pure ⟨_, rfl, wpAny_pure h⟩) htake)
    | exact wpAny_bind (m := Builtin.Tuple.tupleExact _) (wpAny_newObj_type (wpAny_bind (wpAny_pure (wpAny_pure ⟨_, rfl, wpAny_pure h⟩))) htake)
    | exact wpAny_bind (wpAny_bind (m := Builtin.Tuple.tupleExact _) (wpAny_newObj_type (wpAny_pure (wpAny_pure ⟨_, rfl, wpAny_pure h⟩)) htake))
    | exact wpAny_bind (wpAny_bind (m := Builtin.Tuple.tupleExact _) (wpAny_newObj_type (wpAny_pure ⟨_, rfl, wpAny_pure h⟩) htake))
end
section
variable {S : Type} {X : Cx} {R : StI S} {e : Expr} {pos p2 : Pos}
def tRevT (K : PySem.W.Frag) (te : TE) : TE := fun σ H Q => te σ H fun x H1 => ∃ a xs, x = .ref a ∧ SqT K H1 a xs ∧ ∀ p o, o.dict = none → H1 p = none → Q (.ref p) (upd H1 p (.frz o (.tup xs.reverse)))
theorem pe_revT {te : TE} {k : Nat} {p1 p3 : Pos} (he : PE X e te) : PE X (.Subscript e (.Slice none none (some (.UnaryOp .USub (.Constant (.int 1) k p1) p2)) p3) pos) (tRevT X.K te) := by
  refine ⟨fun pins s σ H Q I h => ?_⟩
  refine Subscript_ (thn (he.run pins s σ H _ I h) fun v s1 ⟨x, H1, I1, r1, q1⟩ => ?_)
  obtain ⟨a, xs, ex, hx, q⟩ := q1
  subst ex
  cases r1
  have hst : PO X (some (.UnaryOp .USub (.Constant (.int 1) k p1) p2)) (tPart (tUn (rU fun i => .int (-i)) (tC (.int 1)))) := po_some (pe_un un_neg pe_int)
  refine wpAny_Slice (thn (po_none.run pins s1 σ H1 (fun o H2 => o = none ∧ H2 = H1) I1 ⟨rfl, rfl⟩) fun vl s2 ⟨l, H2, I2, pl, el, e2⟩ => ?_)
  subst el e2
  refine thn (po_none.run pins s2 σ H2 (fun o H3 => o = none ∧ H3 = H2) I2 ⟨rfl, rfl⟩) fun vu s3 ⟨u, H3, I3, pu, eu, e3⟩ => ?_
  subst eu e3
  refine thn (hst.run pins s3 σ H3 (fun o H4 => o = some (-1) ∧ H4 = H3) I3 ⟨1, rfl, -1, rfl, rfl, rfl⟩) fun vs s4 ⟨o, H4, I4, ps, eo, e4⟩ => ?_
  subst eo e4
  have I5 : Inv X pins σ H4 { s4 with heap := s4.heap.push { cls := .type "slice", data := .fields #[vl, vu, vs] } } := I4.kept (t' := s4.toks) fun b ob q => Heap.get?_push_of_some _ q
  obtain ⟨its, r, ht, hz⟩ := I5.tuple hx
  have hlen := r.length
  show wpAny (model X.prog X.w) X.A (subscriptTail e (.Slice none none (some (.UnaryOp .USub (.Constant (.int 1) k p1) p2)) p3) (.ref a) (.ref s4.heap.objs.size)) (EP X pins σ Q) X.xe { s4 with heap := s4.heap.push { cls := .type "slice", data := .fields #[vl, vu, vs] } }
  refine tail_any (ops := [.ref a, .ref s4.heap.objs.size]) ht.typeIs (PyProof.Rows.slot_tuple_getitem.lookup) ?_ (by with_unfolding_all rfl)
  refine getItem_tuple_rev ht (Heap.IsSliceOf.new _ vl vu vs) pl pu ps ?_ (by rw [List.size_toArray]; omega)
  exact laidF I5 r.reverse (by rw [List.length_reverse]; exact hz) q
def gRevT (ga : DS S → Option D) : DS S → Option D := fun ds => (ga ds).bind fun x => match x with
  | .tuple ys => some (.tuple ys.reverse)
  | _ => none
theorem ep_revT {ga : DS S → Option D} {k : Nat} {p1 p3 : Pos} (he : PE X e (tP X.K ga)) : PE X (.Subscript e (.Slice none none (some (.UnaryOp .USub (.Constant (.int 1) k p1) p2)) p3) pos) (tP X.K (gRevT ga)) := PE.imp (pe_revT he) fun σ H Q ⟨G, ds, d, s, w, e, k⟩ => by
  unfold gRevT at e
  cases ea : ga ds with
  | none => rw [ea] at e; cases e
  | some x =>
    rw [ea] at e
    match x, ea, e with
    | .tuple ys, ea, e =>
      cases e
      refine ⟨G, ds, _, s, w, ea, fun v G1 H1 g1 d1 => ?_⟩
      cases d1 with
      | tup q z r =>
        rename_i a vs
        refine ⟨a, vs, rfl, sqt_mono g1.sub q.sq, fun p o dn hp => ?_⟩
        have hg := g1.sub.free hp
        exact k _ (upd G1 p (.frz o (.tup vs.reverse))) _ (g1.trans (.upd g1.sub hp)) (.tup (PqT.new dn) (by rw [List.length_reverse]; exact z) (r.rev.mono fun b u e => by rw [upd_ne (ne_of_none e hg)]; exact e))
end
end
section
variable {TBL : TabL}
section
variable {X : Cx}
end
section
variable {K : PySem.W.Frag} {G : Hp}
end
section
variable {X : Cx}
theorem ty_tup {pins : List (Addr × Obj)} {σ : L2.St} {H : Hp} {s : Shared} {a : Addr} {vs : List V} (J : Inv X pins σ H s) (q : PqT X.K H a vs) : s.TypeIs (.ref a) "tuple" ∧ ∀ b, Value.ref a = .ref b → ∃ ob, s.heap.get? b = some ob ∧ ob.dict = none := by
  rcases q with ⟨o, e, dn⟩ | ⟨o, its, n, e, c, dn, _⟩
  · obtain ⟨g, _, _, _, ⟨o2, g2, c, _⟩⟩ := (show ObjOk X.prog X.w H s.heap a (.frz o (.tup vs)) from J.hok a _ e)
    rw [g] at g2
    cases g2
    exact ⟨⟨o, g, c⟩, fun b z => by cases z; exact ⟨o, g, dn⟩⟩
  · exact ⟨⟨o, J.kIn a o e, c⟩, fun b z => by cases z; exact ⟨o, J.kIn _ o e, dn⟩⟩
variable {o e : Expr} {es : List Expr} {to : TE} {t : TA} {name : Str} {apos cpos : Pos} {id : String} {r : V → List V → Hp → VK → Prop}
end
section
variable {S : Type} {X : Cx} {R : StI S} {pn : List Nat} {o e i : Expr} {apos cpos pos tpos : Pos}
end
end
section
variable {TBL : TabL}
section
variable {X : Cx} {K : PySem.W.Frag}
variable {S : Type} {o : Expr} {apos pos : Pos}
end
end
section
variable {TBL : TabL}
section
variable {S : Type} {X : Cx} {a o i : Expr} {pos p apos cpos : Pos}
end
end
section
variable {TBL : TabL}
section
variable {prog : Program} {w : World} {A : Around} {R : Result → Shared → Prop} {I : Addr} {fp wr : List Addr} {G : Array GenState → Array GenState → Prop} {n : Nat} {P : Nat → Value → Prop} {St : Nat → Shared → Prop}
end
section
variable {prog : Program} {w : World} {κ : Type} [DecidableEq κ] {kn : KeyKind prog w κ} {A : Around} {E : Value → Shared → Prop} {s : Shared} {vw dd : Addr} {tab : List (κ × Value)} {ep : Nat}
end
section
variable {X : Cx} {a e : Expr} {ta te : TE} {apos cpos pos : Pos}
end
section
variable {S : Type} {X : Cx} {a e : Expr} {apos cpos pos : Pos} {j : Nat} {ga : DS S → Option D}
end
end
section
variable {TBL : TabL}
section
variable {S : Type} {X : Cx} {o i : Expr} {pos : Pos} {j : Nat} {g : DS S → Option D}
end
end
section
variable {TBL : TabL}
section
variable {S : Type} {X : Cx} {e e2 e3 : Expr} {g1 : DS S → Option (List D)} {p pos tpos : Pos} {elts : List Expr} {kk : Nat}
end
end
section
variable {TBL : TabL}
section
variable {S : Type} {X : Cx} {o i a e : Expr} {pos apos cpos : Pos} {j : Nat} {g ga : DS S → Option D}
end
section
variable {S : Type} {X : Cx} {R : StI S} {k j n : Nat} {f : Addr} {fd : FuncData} {ps : List Str} {sp : Sp} {E : XK} {C : CXT} {x : Str} {p pos : Pos}
theorem pe_callG0 (F : FnG X.prog X.w X.K X.mg X.base C k f fd ps sp) (hr : Room k X.A) (hgd : X.A.guards = some []) (hg : Gl X x) (hm : X.mg x = some (.ref f)) (hk : PySem.W.keepIn X.K (.ref f) = true) (hb : Binds X.K fd ps []) (hx : Passes C X E)
    (hdb : (x == ("__debug__" : Str)) = false := by decide) : PE X (.Call (.Name x p) [] [] pos) (fun σ H Q => sp [] H Q E) :=
  ⟨fun pins s σ H Q I h => wpAny_Call_Name_kw (ld_glob I hg hm (PySem.W.callWith_K0 I.kIn hk (runG (us := []) F hr hgd hb hx I .nil h)) hdb)⟩
theorem cp_call0 {F : List D → Option (MO S)} (c : Cl X.prog X.w X.K X.mg X.base j x (spP X.K R n F)) (hk : j ≤ k) (hr : Room k X.A) (hgd : X.A.guards = some []) (hg : Gl X x)
    (hdb : (x == ("__debug__" : Str)) = false := by decide) : PE X (.Call (.Name x p) [] [] pos) (tP X.K (gCallP n F (gNil (S := S)))) := by
  obtain ⟨f, fd, ps, Fn, hb, hkp, hm⟩ := c.ex
  refine PE.imp (pe_callG0 (Fn.up hk) hr hgd hg hm hkp hb pass0 hdb) fun σ H Q h => ?_
  obtain ⟨G, ds, xs, s, w, e, k⟩ := p_call (S := S) h
  cases e
  exact k [] G H (.refl s) .nil
end
end
section
variable {TBL : TabL}
section
variable {S : Type}
def spV [TabL] (K : PySem.W.Frag) (R : StI S) (n : Nat) (F : List (Key × D) → List D → Option (MO S × List (Key × D))) : Sp := fun vs H Q _ => vs.length = n ∧ ∃ G fp v0 vr xs as m ys, vs = v0 :: vr ∧ Sub G H ∧ OwnAt (S := S) K R G H v0 (.dic xs) fp ∧ (∀ a, fp a → G a = none) ∧ DenAll K G vr as ∧ F xs as = some (m, ys) ∧
  ∀ v G' H' fp' fr, Step G H fp G' H' (fun a => fp' a ∨ fr a) → OwnAt (S := S) K R G' H' v0 (.dic ys) fp' → OwnAt K R G' H' v m fr → (∀ a, fr a → ¬ fp' a) → (∀ a, fp' a ∨ fr a → G' a = none) → Q v H'
def runV (n : Nat) (g : SF S) : List (Key × D) → List D → Option (MO S × List (Key × D)) := fun xs as => (g (startD n (.dic xs :: as.map .d))).bind fun o => (outM o).bind fun p => (dicKs p.2 0).map fun ys => (p.1, ys)
variable {K : PySem.W.Frag} {R : StI S} {P : Program} {w : World} {mg : Str → Option Value} {base : Heap} {x qual : Str} {st : Stmt} {f : Addr} {fd : FuncData} {N ps : List Str} {k : Nat} {g : SF S}
section
theorem fn_V (Fn : Fun K x qual st f fd) (sc : FnScope N ps (defScope st)) (hbody : BodyOk P w K mg base N qual st f k R [0] g) : FnG P w K mg base CX0 (k + 1) f fd ps (spV K R ps.length (runV N.length g)) := by
  refine fnG_of Fn sc (fun vs H Q E h => h.1) fun cdv A outer s H vs Q E hr hgd h => ⟨_, hbody cdv A outer s H E hr hgd, ?_⟩
  obtain ⟨hl, G, fp, v0, vr, t, as, m, t', rfl, sm, rel, nn, d, e, q⟩ := h
  unfold runV at e
  cases eg : g (startD N.length (.dic t :: as.map .d)) with
  | none => rw [eg] at e; cases e
  | some o =>
    rw [eg] at e
    simp only [Option.bind_some] at e
    have r := rs_start (N := N) sm (argOk_first (R := R) (H := H) (v0 := v0) (m0 := .dic t) (fp := fp) rel nn d)
    refine ⟨G, _, _, o, r, eg, ?_⟩
    have nf : ∀ {G' H' : Hp} {P' : Addr → Prop}, Step G H (fun a => ∃ (i : Nat), i = 0 ∧ fp a) G' H' P' → Step G H fp G' H' P' := fun s => ⟨fun a ha o e => s.frame a (fun ⟨_, _, z⟩ => ha z) o e, s.keep, s.sub, fun b hb => by
      rcases s.new0 b hb with z | z | ⟨_, _, z⟩
      · exact .inl z
      · exact .inr (.inl z)
      · exact .inr (.inr z), fun b hb => (s.newf b hb).elim (fun ⟨_, _, z⟩ => .inl z) .inr⟩
    have st0 : (L2.start N (v0 :: vr))[0]? = some (some v0) := rfl
    have fin : ∀ (m' : MO S) (ds' : DS S), (outM o) = some (m', ds') → (dicKs ds' 0).map (fun s' => (m', s')) = some (m, t') ∧ True := fun m' ds' h => by
      rw [h] at e
      exact ⟨e, trivial⟩
    cases o with
    | nx ds' =>
      intro σ' G' H' F' r' s' p'
      obtain ⟨e1, _⟩ := fin _ _ rfl
      cases es : dicKs ds' 0 with
      | none => rw [es] at e1; cases e1
      | some t2 =>
        rw [es] at e1
        cases e1
        obtain ⟨v1, hv1, o1⟩ := r'.own 0 _ (dicKs_some es)
        have hp := p' 0 (List.mem_singleton.mpr rfl)
        rw [hv1, st0] at hp
        cases hp
        exact q .non G' H' (F' 0) (fun _ => False) ((nf s').weaken fun b z => z.elim (fun z => ⟨0, z⟩) False.elim) o1 ⟨.non, fun _ z => z⟩ (fun _ z => z.elim) fun b z => z.elim (fun z => r'.dis 0 b z) False.elim
    | rt m' ds' =>
      intro v σ' G' H' F' fr r' s' o' h1 h2 p'
      obtain ⟨e1, _⟩ := fin _ _ rfl
      cases es : dicKs ds' 0 with
      | none => rw [es] at e1; cases e1
      | some t2 =>
        rw [es] at e1
        cases e1
        obtain ⟨v1, hv1, o1⟩ := r'.own 0 _ (dicKs_some es)
        have hp := p' 0 (List.mem_singleton.mpr rfl)
        rw [hv1, st0] at hp
        cases hp
        exact q v G' H' (F' 0) fr ((nf s').weaken fun b z => z.elim (fun z => .inl ⟨0, z⟩) .inr) o1 o' (fun b z y => h1 b z ⟨0, y⟩) fun b z => z.elim (fun z => r'.dis 0 b z) (h2 b)
    | bk ds' => cases e
    | ct ds' => cases e
end
section
variable {X : Cx} {R : StI S} {e o : Expr} {es : List Expr} {x f m : Str} {pos p : Pos} {i j k n : Nat}
def oCallV (n i : Nat) (F : List (Key × D) → List D → Option (MO S × List (Key × D))) (fs : XF S (List D)) : XF S (MO S) := fun ds0 => (dicKs ds0 i).bind fun _ => xb fs (fun as => fun ds => (dicKs ds i).bind fun s => if as.length + 1 = n then (F s as).map fun q => (q.1, ds.set i (some (.dic q.2))) else none) ds0
theorem o_callV {K : PySem.W.Frag} {F : List (Key × D) → List D → Option (MO S × List (Key × D))} {fs : XF S (List D)} {σ : L2.St} {H : Hp} {Q : VK} (h : tO K R (oCallV n i F fs) σ H Q) : tCall (spV K R n F) [] E0 (tCons (tVar i) (tXA K R fs)) σ H Q := by
  obtain ⟨G, F0, ds, m, ds', rs, e, k⟩ := h
  unfold oCallV at e
  cases e0 : dicKs ds i with
  | none => rw [e0] at e; cases e
  | some t0 =>
  rw [e0, Option.bind_some] at e
  obtain ⟨as, ds1, ea, e⟩ := xb_some e
  cases e1 : dicKs ds1 i with
  | none => rw [e1] at e; cases e
  | some t =>
  rw [e1, Option.bind_some] at e
  by_cases hn : as.length + 1 = n
  · rw [if_pos hn] at e
    cases ef : F t as with
    | none => rw [ef] at e; cases e
    | some q =>
      rw [ef] at e
      cases e
      obtain ⟨v0, hv0, _⟩ := rs.own i _ (dicKs_some e0)
      refine ⟨v0, hv0, G, F0, ds, as, ds1, rs, ea, fun vs G1 H1 F1 r1 s1 d1 => ?_⟩
      show spV K R n F ((v0 :: vs) ++ []) H1 Q E0
      rw [List.append_nil]
      obtain ⟨v1, hv1, o1⟩ := r1.own i _ (dicKs_some e1)
      rw [hv0] at hv1
      cases hv1
      refine ⟨by show vs.length + 1 = n; rw [d1.length]; exact hn, G1, F1 i, v0, vs, t, as, q.1, q.2, rfl, r1.sub, o1, r1.dis i, d1, ef, fun v G2 H2 fp fr s2 rel o h1 h2 => ?_⟩
      obtain ⟨r2, s3, ap⟩ := r1.calleeM (dicKs_some e1) hv0 s1 s2 rel h1 h2
      exact k v G2 H2 _ fr r2 s3 o ap fun a ha => h2 a (.inr ha)
  · rw [if_neg hn] at e; cases e
theorem co_callV {F : List (Key × D) → List D → Option (MO S × List (Key × D))} {fs : XF S (List D)} (c : Cl X.prog X.w X.K X.mg X.base j x (spV X.K R n F)) (hk : j ≤ k) (hr : Room k X.A) (hgd : X.A.guards = some []) (hg : Gl X x) (hi : PE X e (tVar i)) (ha : PA X es (tXA X.K R fs))
    (hdb : (x == ("__debug__" : Str)) = false := by decide) (he : starEach (e :: es) X.env = (false, eval e X.env) :: starEach es X.env := by rfl) (hpl : (backTo pos (starEach es X.env)).any (·.1) = false := by rfl) :
    PE X (.Call (.Name x p) (e :: es) [] pos) (tO X.K R (oCallV n i F fs)) := by
  obtain ⟨f, fd, ps, Fn, hb, hkp, hm⟩ := c.ex
  exact PE.imp (pe_callG (Fn.up hk) hr hgd hg hm hkp hb pass0 (pa_cons hi ha he) hdb he hpl) fun _ _ _ h => o_callV h
end
end
end
section
variable {TBL : TabL}
def asg2 (i : Nat) (js : List Nat) : D → Option (List (Nat × D))
  | .tuple [x, y] => (asgT js y).map fun l => (i, x) :: l
  | _ => none
section
variable {S : Type} {X : Cx} {R : StI S} {e : Expr} {lo hi : Option Expr} {gl gh : DS S → Option (Option Int)} {j : Nat} {pos p2 : Pos}
def gScSl (j : Nat) (gl gh : DS S → Option (Option Int)) : DS S → Option (List D) := fun ds => match ds[j]? with
  | some (some (.scr ns)) => if ns.length ≤ sizeLine then (gl ds).bind fun l => (gh ds).bind fun h => some (DL.cutD (ns.map .int) l h) else none
  | _ => none
theorem denAll_ints {K : PySem.W.Frag} {G : Hp} : ∀ ns : List Int, DenAll K G (ns.map V.int) (ns.map .int)
  | [] => .nil
  | n :: r => .cons (.int n) (denAll_ints r)
theorem ef_scSl (he : PE X e (tVar j)) (hl : PO X lo (tPO X.K gl)) (hu : PO X hi (tPO X.K gh)) : PE X (.Subscript e (.Slice lo hi none p2) pos) (tF X.K (gScSl j gl gh)) := PE.imp (pe_slice sl_list he hl hu) fun σ H Q ⟨G, ds, d, s, w, e, k⟩ => by
  unfold gScSl at e
  split at e
  · rename_i ns ej
    split at e
    · rename_i hz
      obtain ⟨l, el, e⟩ := Option.bind_eq_some_iff.mp e
      obtain ⟨h, eh, e⟩ := Option.bind_eq_some_iff.mp e
      cases e
      obtain ⟨v, hv, a, rfl, q⟩ := w.has j _ ej
      refine ⟨_, hv, G, ds, l, s, w, el, fun G2 H2 g2 => ?_⟩
      refine ⟨G2, ds, h, g2.sub, w.mono g2.keep, eh, fun G3 H3 g3 => ?_⟩
      refine ⟨a, _, rfl, sql_mono g3.sub (sql_mono (g2.trans g3).keep q), fun p hp => ?_⟩
      exact k p _ G3 _ ((g2.trans g3).trans (.own g3.sub hp)) (g3.sub.free hp) ((g2.trans g3).all.free hp) upd_same (Nat.le_trans (cutV_le _ _ _) (by rw [List.length_map]; exact hz)) (den_cut (denAll_ints ns) l h)
    · cases e
  · cases e
end
end
section
variable {TBL : TabL}
section
variable {S : Type} {X : Cx} {R : StI S} {e k1 k2 k3 k4 z1 z2 z3 : Expr} {pos : Pos}
def oDict4 (s1 s2 s3 s4 : Str) (g : DS S → Option D) (i1 i2 i3 : Int) : XF S (MO S) := fun ds => (g (hideDS ds)).map fun x => (.dic (putD (putD (putD (putD [] (.inr s1) x) (.inr s2) (.int i1)) (.inr s3) (.int i2)) (.inr s4) (.int i3)), ds)
def txtOk (s : Str) : Prop := s.length ≤ sizeLine ∧ PyData.strOk s = true
theorem den_txt {K : PySem.W.Frag} {G : Hp} {s : Str} (h : txtOk s) : Den K G (kV (.inr s)) (kD (.inr s)) := .str s h.1 h.2
theorem eo_dict4 {s1 s2 s3 s4 : Str} {g : DS S → Option D} {i1 i2 i3 : Int} (h1 : PE X k1 (tC (.str s1))) (he : PE X e (tP X.K g)) (h2 : PE X k2 (tC (.str s2))) (g1 : PE X z1 (tC (.int i1))) (h3 : PE X k3 (tC (.str s3))) (g2 : PE X z2 (tC (.int i2))) (h4 : PE X k4 (tC (.str s4))) (g3 : PE X z3 (tC (.int i3)))
    (o1 : txtOk s1 := by exact ⟨by decide +kernel, by decide +kernel⟩) (o2 : txtOk s2 := by exact ⟨by decide +kernel, by decide +kernel⟩) (o3 : txtOk s3 := by exact ⟨by decide +kernel, by decide +kernel⟩) (o4 : txtOk s4 := by exact ⟨by decide +kernel, by decide +kernel⟩) :
    PE X (.Dict [some k1, some k2, some k3, some k4] [e, z1, z2, z3] pos) (tO X.K R (oDict4 s1 s2 s3 s4 g i1 i2 i3)) :=
  PE.imp (pe_disp (pps_cons h1 he (pps_cons h2 g1 (pps_cons h3 g2 (pps_cons h4 g3 pps_nil)))) rfl rfl (by simp) (by show 4 ≤ 15; decide)) fun σ H Q ⟨G, F, ds, m, ds', r, e, k⟩ p hp => by
    unfold oDict4 at e
    obtain ⟨x, ex, e⟩ := Option.map_eq_some_iff.mp e
    cases e
    have g0 := Gr.own (o := .dK []) r.sub hp
    have r0 := r.grow g0
    refine ⟨G, hideDS ds, x, r0.sub, r0.view, ex, fun v G1 H1 gr d1 => ?_⟩
    have H1p : H1 p = some (.dK []) := (gr.all p _ upd_same).nt
    have Gp : G p = none := r.sub.free hp
    have G1p : G1 p = none := by
      cases q : G1 p with
      | none => rfl
      | some u =>
        rcases gr.new p (by rw [q]; simp) with z | z
        · exact absurd Gp z
        · rw [upd_same] at z; cases z
    refine ⟨H1p, [(.inr s1, v), ((Sum.inr s2 : Key), V.int i1), ((Sum.inr s3 : Key), V.int i2), ((Sum.inr s4 : Key), V.int i3)], rfl, by show 4 ≤ 15; decide, ?_⟩
    have lz : (mergeK [] [((Sum.inr s1 : Key), v), ((Sum.inr s2 : Key), V.int i1), ((Sum.inr s3 : Key), V.int i2), ((Sum.inr s4 : Key), V.int i3)]).length ≤ sizeLine := by
      have h := mapK_len [((Sum.inr s1 : Key), v), ((Sum.inr s2 : Key), V.int i1), ((Sum.inr s3 : Key), V.int i2), ((Sum.inr s4 : Key), V.int i3)] []
      exact Nat.le_trans h (show 0 + 4 ≤ sizeLine by decide)
    have kd : KVsD X.K G1 (mergeK [] [((Sum.inr s1 : Key), v), ((Sum.inr s2 : Key), V.int i1), ((Sum.inr s3 : Key), V.int i2), ((Sum.inr s4 : Key), V.int i3)]) (putD (putD (putD (putD [] (.inr s1) x) (.inr s2) (.int i1)) (.inr s3) (.int i2)) (.inr s4) (.int i3)) :=
      (((KVsD.nil.put (den_txt o1) d1).put (den_txt o2) (.int i1)).put (den_txt o3) (.int i2)).put (den_txt o4) (.int i3)
    have r1 := r0.grow gr
    have w := Step.write (o := HO.dK (mergeK [] [((Sum.inr s1 : Key), v), ((Sum.inr s2 : Key), V.int i1), ((Sum.inr s3 : Key), V.int i2), ((Sum.inr s4 : Key), V.int i3)])) (P := fun a => (∃ i, F i a) ∨ a = p) gr.sub G1p (.inr rfl) fun u e => by rw [H1p] at e; cases e; exact nt_dK
    have nFp : ¬ ∃ i, F i p := fun ⟨i, z⟩ => r.trk i p z hp
    have r2 : RS X.K R ds σ G1 (upd H1 p (.dK (mergeK [] [((Sum.inr s1 : Key), v), ((Sum.inr s2 : Key), V.int i1), ((Sum.inr s3 : Key), V.int i2), ((Sum.inr s4 : Key), V.int i3)]))) F := by
      refine ⟨w.sub, r1.len, fun i m z => ?_, r1.emp, r1.dj, r1.dis⟩
      obtain ⟨u, y1, y2⟩ := r1.own i m z
      exact ⟨u, y1, y2.mono (Same.refl _) fun a ha => upd_ne fun y => nFp ⟨i, by rw [← y]; exact ha⟩⟩
    have st0 : Step G H (fun a => ∃ i, F i a) G (upd H p (.dK [])) (fun a => (∃ i, F i a) ∨ a = p) := (g0.step (P := fun a => ∃ i, F i a)).add fun a z => by rw [z]; exact hp
    exact k (.ref p) G1 _ F (fun b => b = p) r2 ((st0.trans (gr.step (P := fun a => (∃ i, F i a) ∨ a = p))).trans w) ⟨p, _, rfl, upd_same, lz, kd, fun b => Iff.rfl⟩ (fun b hb z => nFp (by rw [← hb]; exact z)) fun b hb => by rw [hb]; exact G1p
end
end
section
variable {TBL : TabL}
section
variable {S : Type} {X : Cx} {R : StI S} {o i : Expr} {pos : Pos} {j : Nat}
def xDGetG (j : Nat) (g : DS S → Option D) : XF S D := fun ds => (dicKs ds j).bind fun kvs => (g (hideDS ds)).bind fun x => (keyOf1 x).bind fun k => (lookD kvs k).map fun d => (d, ds)
theorem ex_dgetG {g : DS S → Option D} (hu : X.A.units + 1 < cLine) (ho : PE X o (tVar j)) (hi : PE X i (tP X.K g)) (hs : NoSl i) : PE X (.Subscript o i pos) (tX X.K R (xDGetG j g)) := PE.imp (pe_dget hu ho hi hs) fun σ H Q ⟨G, F, ds, d, ds', r, e, k⟩ => by
  unfold xDGetG at e
  obtain ⟨kvs, e1, e⟩ := Option.bind_eq_some_iff.mp e
  obtain ⟨x, e2, e⟩ := Option.bind_eq_some_iff.mp e
  obtain ⟨kk, e3, e⟩ := Option.bind_eq_some_iff.mp e
  obtain ⟨d0, e4, e⟩ := Option.map_eq_some_iff.mp e
  cases e
  obtain ⟨v0, hv, a, xs, rfl, ha, z, kd, hf⟩ := r.own j _ (dicKs_some e1)
  refine ⟨_, hv, G, hideDS ds, x, r.sub, r.view, e2, fun y G1 H1 g1 d1 => ?_⟩
  obtain ⟨o, p1, _, p3⟩ := dget_of (.inl (g1.all.nt ha)) (kd.mono g1.keep) d1 e3
  obtain ⟨v, rfl, dv⟩ := p3 d e4
  exact ⟨a, v, rfl, p1, k v G1 H1 F (r.grow g1) (g1.step (P := fun a => ∃ i, F i a)) dv⟩
end
end
section
variable {TBL : TabL}
section
variable {K : PySem.W.Frag} {G G' : Hp}
def SameN (G G' : Hp) : Prop := ∀ b o, G b = some o → (∀ xs, o ≠ .dK xs) → G' b = some o
theorem nk_l {vs : List V} : ∀ xs, HO.lst vs ≠ .dK xs := by intro _ y; cases y
theorem nk_f {o : Obj} {vs : List V} : ∀ xs, HO.frz o (.tup vs) ≠ .dK xs := by intro _ y; cases y
mutual
theorem Den.noD_off (s : SameN G G') : ∀ {v : V} {d : D}, Den K G v d → noD d = true → Den K G' v d
  | _, _, .non, _ => .non
  | _, _, .bl b, _ => .bl b
  | _, _, .int i, _ => .int i
  | _, _, .str x h o, _ => .str x h o
  | _, _, .lst e z r, h => .lst (s _ _ e nk_l) z (DenAll.noD_off s r (by unfold noD at h; exact h))
  | _, _, .tup q z r, h => .tup (q.keep fun o e => s _ _ e nk_f) z (DenAll.noD_off s r (by unfold noD at h; exact h))
  | _, _, .emp _, h => by cases h
  | _, _, .dct _ _ _, h => by cases h
  | _, _, .obj _ _ _, h => by cases h
theorem DenAll.noD_off (s : SameN G G') : ∀ {vs : List V} {ds : List D}, DenAll K G vs ds → noDAll ds = true → DenAll K G' vs ds
  | _, _, .nil, _ => .nil
  | _, _, .cons h r, e => by
    unfold noDAll at e
    obtain ⟨e1, e2⟩ := Bool.and_eq_true_iff.mp e
    exact .cons (Den.noD_off s h e1) (DenAll.noD_off s r e2)
end
end
section
variable {S : Type} {X : Cx} {K : PySem.W.Frag} {j : Nat} {own : List Nat} {t : D → Option (List (Nat × D))} {p : DS S → Option Bool} {e : DS S → Option D} {le o : Expr}
end
end
section
variable {TBL : TabL}
structure HeldSrc (prog : Program) (w : World) (A : Around) (I S : Addr) (wr : List Addr) (n : Nat) (Ob : Nat → Obj → Prop) (St : Nat → Heap → Prop) : Prop where
  off : S ∉ wr
  frame : ∀ i h h', St i h → (∀ b o, b ≠ S → h.get? b = some o → h'.get? b = some o) → St i h'
  item : ∀ i (s : Shared) (Q : Option Value → Shared → Prop) (E : Value → Shared → Prop), i < n → St i s.heap → S < s.heap.objs.size →
    (∀ T o h' tk, Ob i o → h'.get? T = some o → T ∉ wr → s.heap.objs.size ≤ T → St (i + 1) h' → (∀ b o, b ∉ wr → s.heap.get? b = some o → h'.get? b = some o) → Q (some (.ref T)) { s with heap := h', toks := tk }) → wpAny (model prog w) A (pyNext (.ref I)) Q E s
  done : ∀ (s : Shared) (Q : Option Value → Shared → Prop) (E : Value → Shared → Prop), St n s.heap →
    (∀ h' tk, (∀ b o, b ∉ wr → s.heap.get? b = some o → h'.get? b = some o) → Q none { s with heap := h', toks := tk }) → wpAny (model prog w) A (pyNext (.ref I)) Q E s
structure AccH (Ob : Nat → Obj → Prop) (S : Addr) (wr : List Addr) (h : Heap) (acc : Array Value) (i : Nat) : Prop where
  size : acc.size = i
  at' : ∀ (j : Nat) (v : Value), acc[j]? = some v → ∃ T o, v = .ref T ∧ h.get? T = some o ∧ Ob j o ∧ T ∉ wr ∧ S < T
  inj : ∀ (j k : Nat) (v : Value), acc[j]? = some v → acc[k]? = some v → j = k
section
variable {prog : Program} {w : World} {A : Around} {R : Result → Shared → Prop} {I S : Addr} {wr : List Addr} {n : Nat} {Ob : Nat → Obj → Prop} {St : Nat → Heap → Prop}
theorem AccH.empty {h : Heap} : AccH Ob S wr h #[] 0 := ⟨rfl, fun j v e => by simp at e, fun j k v e => by simp at e⟩
theorem AccH.at {h h' : Heap} {acc : Array Value} {i : Nat} (a : AccH Ob S wr h acc i) (k : ∀ b o, b ∉ wr → b ≠ S → h.get? b = some o → h'.get? b = some o) : AccH Ob S wr h' acc i := ⟨a.size, fun j v e => by
  obtain ⟨T, o, h1, h2, h3, h4, h5⟩ := a.at' j v e
  exact ⟨T, o, h1, k T o h4 (Nat.ne_of_gt h5) h2, h3, h4, h5⟩, a.inj⟩
theorem AccH.push {h : Heap} {acc : Array Value} {i : Nat} {T : Addr} {o : Obj} (a : AccH Ob S wr h acc i) (h1 : Ob i o) (h2 : h.get? T = some o) (h3 : T ∉ wr) (h4 : S < T) (h5 : Value.ref T ∉ acc) : AccH Ob S wr h (acc.push (.ref T)) (i + 1) := ⟨by rw [Array.size_push, a.size], fun j v e => by
  rw [Array.getElem?_push] at e
  split at e
  · rename_i hj
    cases e
    rw [a.size] at hj
    exact ⟨T, o, rfl, h2, by rw [hj]; exact h1, h3, h4⟩
  · exact a.at' j v e, fun j k v e1 e2 => by
  rw [Array.getElem?_push] at e1 e2
  split at e1
  · split at e2
    · omega
    · cases e1
      exact absurd (Array.mem_of_getElem? e2) h5
  · split at e2
    · cases e2
      exact absurd (Array.mem_of_getElem? e1) h5
    · exact a.inj j k v e1 e2⟩
theorem AccH.new {h : Heap} {acc : Array Value} {i : Nat} {T : Addr} (a : AccH Ob S wr h acc i) (hT : h.objs.size ≤ T) : Value.ref T ∉ acc := fun hm => by
  obtain ⟨j, hj, e⟩ := Array.getElem_of_mem hm
  obtain ⟨T', o, e1, e2, _⟩ := a.at' j _ (Array.getElem?_eq_getElem hj)
  rw [e] at e1
  cases e1
  exact absurd (Nat.lt_of_lt_of_le (Heap.lt_size e2) hT) (Nat.lt_irrefl _)
end
section
variable {prog : Program} {w : World} {A : Around} {E : Value → Shared → Prop} {s : Shared} {I : Addr} {wr : List Addr} {n : Nat} {Ob : Nat → Obj → Prop} {St : Nat → Heap → Prop} {T : String}
structure TypeH (T : String) : Prop where
  len : typeLookup (.type T) "__len__" = pure none
  hint : typeLookup (.type T) "__length_hint__" = pure none
  notL : (Value.type T == Value.type "list") = false
  notT : (Value.type T == Value.type "tuple") = false
end
section
variable {prog : Program} {w : World} {A : Around}
end
section
variable {X : Cx}
open Classical in
end
section
variable {X : Cx} {e : Expr} {ta : TA} {p p2 pos pos2 : Pos}
end
section
variable {S : Type} {X : Cx} {a : Expr} {p p2 pos pos2 : Pos}
open Classical in
end
end
section
variable {TBL : TabL}
section
variable {prog : Program} {w : World} {A : Around} {E : Value → Shared → Prop} {s : Shared} {I : Addr} {wr : List Addr} {n : Nat} {Ob : Nat → Obj → Prop} {St : Nat → Heap → Prop} {T : String}
end
section
variable {prog : Program} {w : World} {A : Around}
end
end
section
variable {TBL : TabL}
section
variable {X : Cx} {e e2 : Expr} {ta : TA} {p p2 pos pos2 : Pos}
end
section
variable {S : Type} {X : Cx} {a b : Expr} {p p2 pos pos2 : Pos}
open Classical in
end
end
section
variable {TBL : TabL}
section
variable {S : Type} {K : PySem.W.Frag} {R : StI S} {pn : List Nat} {σ : L2.St} {H : Hp} {Dn : Ends} {i : Nat} {g : SF S}
end
end
section
variable {TBL : TabL}
section
variable {prog : Program} {w : World} {A : Around} {E : Value → Shared → Prop} {s : Shared} {z TI TO T i1 i2 : Addr} {f : Bool} {oT : Obj} {fp1 fp2 : List Addr} {n1 n2 i : Nat} {P1 P2 : Nat → Value → Prop} {St1 St2 : Nat → Heap → Prop}
end
section
variable {prog : Program} {w : World} {A : Around} {fp1 fp2 : List Addr} {n1 n2 : Nat} {P1 P2 : Nat → Value → Prop} {St1 St2 : Nat → Heap → Prop}
end
end
section
variable {TBL : TabL}
section
variable {X : Cx} {e e2 : Expr} {ta : TA} {p p2 pos pos2 : Pos}
end
section
variable {S : Type} {X : Cx} {a b : Expr} {p p2 pos pos2 : Pos}
open Classical in
end
end
section
variable {TBL : TabL}
section
variable {S : Type} {X : Cx} {R : StI S} {pos pos2 : Pos} {keys : List (Option Expr)} {values : List Expr} {ks : List Str} {g : DS S → Option (List D)}
def PKs [TabL] (X : Cx) (pos : Pos) (keys : List (Option Expr)) (values : List Expr) (ks : List Str) (g : DS S → Option (List D)) : Prop :=
  ∃ trs : List (TE × TE), PPs X pos keys values trs ∧ keys.all (·.isSome) = true ∧ keys.length = values.length ∧ ks.length = keys.length ∧ (∀ s ∈ ks, txtOk s) ∧
    ∀ (σ : L2.St) (G H : Hp) (ds : DS S) (xs : List D) (Q : List (V × V) → Hp → Prop), Sub G H → View X.K G σ ds → g ds = some xs →
      (∀ vs G' H', Gr G H G' H' → DenAll X.K G' vs xs → vs.length = ks.length → Q ((ks.zip vs).map fun z => (V.str z.1, z.2)) H') → tPairs trs σ H Q
theorem pk_nil : PKs X pos [] [] [] (gNil (S := S)) := ⟨[], pps_nil, rfl, rfl, rfl, nofun, fun σ G H ds xs Q s w e k => by
  cases e
  exact k [] G H (.refl s) .nil rfl⟩
theorem pk_cons {k v : Expr} {s : Str} {ga : DS S → Option D} (hk : PE X k (tC (.str s))) (hv : PE X v (tP X.K ga)) (hr : PKs X pos keys values ks g) (o : txtOk s := by exact ⟨by decide +kernel, by decide +kernel⟩) :
    PKs X pos (some k :: keys) (v :: values) (s :: ks) (gCons ga g) := by
  obtain ⟨trs, h1, h2, h3, h4, h5, h6⟩ := hr
  refine ⟨_, pps_cons hk hv h1, by rw [List.all_cons, h2]; rfl, by rw [List.length_cons, List.length_cons, h3], by rw [List.length_cons, List.length_cons, h4], fun t ht => ?_, fun σ G H ds xs Q sm w e q => ?_⟩
  · rcases List.mem_cons.mp ht with z | z
    · rw [z]; exact o
    · exact h5 t z
  · unfold gCons at e
    cases ea : ga ds with
    | none => rw [ea] at e; cases e
    | some x =>
      rw [ea] at e
      cases eb : g ds with
      | none => simp [eb] at e
      | some ys =>
        simp only [eb, Option.bind_some] at e
        cases e
        show tP X.K ga σ H _
        refine ⟨G, ds, x, sm, w, ea, fun u G1 H1 g1 d1 => ?_⟩
        exact h6 σ G1 H1 ds ys _ g1.sub (w.mono g1.keep) eb fun vs G2 H2 g2 d2 l2 => q (u :: vs) G2 H2 (g1.trans g2) (.cons (d1.mono g2.keep) d2) (by rw [List.length_cons, List.length_cons, l2])
theorem kvs_zip {K : PySem.W.Frag} {G : Hp} : ∀ {ks : List Str} {vs : List V} {xs : List D}, (∀ s ∈ ks, txtOk s) → DenAll K G vs xs → KVsD K G ((ks.map (Sum.inr : Str → Key)).zip vs) ((ks.map (Sum.inr : Str → Key)).zip xs)
  | [], _, _, _, _ => .nil
  | _ :: _, _, _, _, .nil => .nil
  | s :: ks, _, _, h, .cons d r => .cons (den_txt (h s (List.mem_cons_self ..))) d (kvs_zip (fun t ht => h t (List.mem_cons_of_mem _ ht)) r)
def dispD (ks : List Str) (xs : List D) : List (Key × D) := mapD [] ((ks.map (Sum.inr : Str → Key)).zip xs)
def gDispV (ks : List Str) (g : DS S → Option (List D)) : DS S → Option D := fun ds => if ks.length ≤ 15 then (g ds).map fun xs => .dict ((.none, .bool true) :: encKs (dispD ks xs)) else none
theorem ep_dispK (h : PKs X pos keys values ks g) (h0 : keys ≠ [] := by simp) : PE X (.Dict keys values pos) (tP X.K (gDispV ks g)) := by
  obtain ⟨trs, h1, h2, h3, h4, h5, h6⟩ := h
  by_cases l15 : ks.length ≤ 15
  · refine PE.imp (pe_disp h1 h2 h3 h0 (by rw [← h4]; exact l15)) fun σ H Q ⟨G, ds, d, s, w, e, k⟩ p hp => ?_
    unfold gDispV at e
    rw [if_pos l15] at e
    obtain ⟨xs, ex, e⟩ := Option.map_eq_some_iff.mp e
    cases e
    have g0 := Gr.own (o := .dK []) s hp
    refine h6 σ G _ ds xs _ g0.sub w ex fun vs G1 H1 gr d1 lv => ?_
    have H1p : H1 p = some (.dK []) := (gr.all p _ upd_same).nt
    have Gp : G p = none := s.free hp
    have G1p : G1 p = none := by
      cases q : G1 p with
      | none => rfl
      | some u =>
        rcases gr.new p (by rw [q]; simp) with z | z
        · exact absurd Gp z
        · rw [upd_same] at z; cases z
    have ml : ((ks.map (Sum.inr : Str → Key)).zip vs).length ≤ 15 := by rw [List.length_zip, List.length_map]; omega
    refine ⟨H1p, (ks.map (Sum.inr : Str → Key)).zip vs, ?_, ml, ?_⟩
    · rw [List.zip_map_left, List.map_map]
      rfl
    have lz : (mapK [] ((ks.map (Sum.inr : Str → Key)).zip vs)).length ≤ sizeLine := by
      have h := mapK_len ((ks.map (Sum.inr : Str → Key)).zip vs) []
      have : (15 : Nat) ≤ sizeLine := by decide
      simp only [List.length_nil, Nat.zero_add] at h
      omega
    have kd : KVsD X.K G1 (mapK [] ((ks.map (Sum.inr : Str → Key)).zip vs)) (dispD ks xs) := (kvs_zip h5 d1).map .nil
    have sm : ∀ b u, G1 b = some u → b ≠ p := fun b u z y => by rw [y, G1p] at z; cases z
    have gf : Gr G H (upd G1 p (.dK (mapK [] ((ks.map (Sum.inr : Str → Key)).zip vs)))) (upd H1 p (.dK (mapK [] ((ks.map (Sum.inr : Str → Key)).zip vs)))) := by
      refine ⟨fun b u z => ?_, (gr.sub.put G1p H1p).frz upd_same, fun b u z => ?_, fun b hb => ?_⟩
      · have := gr.keep b u z
        rw [upd_ne (sm b u this)]
        exact this
      · have nb : b ≠ p := ne_of_none z hp
        rw [upd_ne nb]
        exact gr.all b u (by rw [upd_ne nb]; exact z)
      · by_cases hb2 : b = p
        · exact .inr (by rw [hb2]; exact hp)
        · rw [upd_ne hb2] at hb
          rcases gr.new b hb with z | z
          · exact .inl z
          · rw [upd_ne hb2] at z
            exact .inr z
    refine k (.ref p) _ _ gf (.dct upd_same lz ?_)
    exact kvs_den (kd.mono fun b u z => by rw [upd_ne (sm b u z)]; exact z)
  · refine ⟨fun pins s σ H Q I q => ?_⟩
    obtain ⟨G, ds, d, s, w, e, k⟩ := q
    unfold gDispV at e
    rw [if_neg l15] at e
    cases e
end
end
section
variable {TBL : TabL}
section
variable {S : Type} {X : Cx} {o i f : Expr} {j : Nat} {apos cpos : Pos}
end
end
section
variable {TBL : TabL}
section
variable {X : Cx} {x n y f : Str} {c : Value} {i j : Nat} {body rest : List Stmt} {np pos pos' p1 p2 p3 p4 : Pos} {b : SFX Exc} {r : SF Exc} {kn : List Str}
end
end
section
variable {TBL : TabL}
section
variable {X : Cx}
end
section
variable {K : PySem.W.Frag} {G : Hp}
end
end
section
variable {TBL : TabL}
section
variable {S : Type} {K : PySem.W.Frag} {R : StI S} {mg : Str → Option Value} {W : WX} {pn : List Nat} {Dn : Ends} {σ : L2.St} {H : Hp} {g : SFX S}
end
section
variable {S : Type} {X : Cx} {R : StI S} {W : WX} {pn : List Nat} {tg iter : Expr} {body : List Stmt} {pos : Pos} {fa : XE S} {g : SFX S}
end
end
section
variable {TBL : TabL}
section
variable {X : Cx} {pn : List Nat} {o e i e2 : Expr} {es : List Expr} {pos pos2 apos cpos : Pos} {j : Nat}
end
end
section
variable {TBL : TabL}
section
variable {S : Type} {R : StI S} {X : Cx} {a : Expr} {p p2 q pos : Pos}
end
end
section
variable {TBL : TabL}
section
variable {S : Type} {R : StI S} {X : Cx} {a : Expr} {p p2 q pos : Pos}
end
end
set_option maxHeartbeats 8000000
section
variable {TBL : TabL}
section
variable {P : Program} {w : World} {A : Around} {E : Value → Shared → Prop} {s : Shared}
end
end
section
variable {TBL : TabL}
section
variable {X : Cx}
end
section
variable {S : Type} {R : StI S} {X : Cx} {a : Expr} {p p2 q pos : Pos} {ga : DS S → Option D}
end
end
section
variable {TBL : TabL}
section
variable {X : Cx} {K : PySem.W.Frag}
end
end
section
variable {TBL : TabL}
mutual
def noDE : D → Bool
  | .none => true | .bool _ => true | .int _ => true | .str _ => true
  | .list xs => noDEAll xs
  | .tuple xs => noDEAll xs
  | .dict kvs => kvs.isEmpty
def noDEAll : List D → Bool
  | [] => true
  | x :: xs => noDE x && noDEAll xs
end
def reprE : List D → Option D
  | [d] => if d.showable = true ∧ d.depth ≤ 120 ∧ d.shown.length ≤ sizeLine ∧ PyData.strOk d.shown = true ∧ noDE d = true then some (.str d.shown) else none
  | _ => none
def rReprE (K : PySem.W.Frag) : List V → Hp → VK → Prop := fun xs H Q => ∃ x d G, xs = [x] ∧ Same G H ∧ Den K G x d ∧ noDE d = true ∧ d.showable = true ∧ d.depth ≤ 120 ∧ d.shown.length ≤ sizeLine ∧ Q (.str d.shown) H
section
variable {X : Cx} {pins : List (Addr × Obj)} {σ : L2.St} {G H : Hp} {s : Shared}
mutual
theorem den_rk (I : Inv X pins σ H s) (sb : Same G H) : ∀ {v : V} {d : D}, Den X.K G v d → ∀ u, RelV v u → noDE d = true → d.showable = true → d.shown.length ≤ sizeLine → (∃ as, Reads s.heap u d as) ∧ ∃ bs, ReadAtMost s.heap d.depth bs ∧ ReprK X.prog X.w bs s.heap d.depth u d.shown
  | _, _, .non, u, r, _, _, _ => by
    obtain rfl : u = .none := r
    exact ⟨⟨_, .none⟩, [], (fun _ h => nomatch h), by simp only [PyData.shown]; exact .of_is ReprIs.none _ _ _⟩
  | _, _, .bl b, u, r, _, _, _ => by
    obtain rfl : u = .bool b := r
    exact ⟨⟨_, .bool b⟩, [], (fun _ h => nomatch h), by simp only [PyData.shown]; exact .of_is (ReprIs.bool b) _ _ _⟩
  | _, _, .int i, u, r, _, hs, _ => by
    obtain ⟨t, rfl⟩ : ∃ t, u = .int i t := r
    exact ⟨⟨_, .int i t⟩, [], (fun _ h => nomatch h), by simp only [PyData.shown]; exact .of_is (ReprIs.int t (by simpa [PyData.showable] using hs)) _ _ _⟩
  | _, _, .str x _ _, u, r, _, _, hz => by
    obtain ⟨t, rfl⟩ : ∃ t, u = .str x t := r
    exact ⟨⟨_, .str x t⟩, [], (fun _ h => nomatch h), by simp only [PyData.shown]; exact .of_is (ReprIs.str x t (by simpa only [PyData.shown] using hz)) _ _ _⟩
  | _, _, .lst (a := a) (ds := xs) e z ra, u, r, hn, hs, hz => by
    obtain rfl : u = .ref a := r
    obtain ⟨_, its, n, rv, hget⟩ := I.hok a _ (sb _ _ e)
    have hz' : (listText (PyData.shownAll xs)).length ≤ sizeLine := by simpa only [PyData.shown] using hz
    obtain ⟨⟨as, h4⟩, bs, hb, hk⟩ := den_rkAll I sb ra its rv (by unfold noDE at hn; exact hn) (by simpa [PyData.showable] using hs) (fun t ht => Nat.le_trans (listText_mem_le ht) hz')
    have r1 : Reads s.heap (.ref a) (.list xs) _ := .list hget rfl rfl h4
    have hna : a ∉ bs := not_mem_of_deeper r1 (by simp only [PyData.depth]; omega) hb
    refine ⟨⟨_, r1⟩, a :: bs, ReadAtMost.cons r1 (by simp only [PyData.depth]; omega) hb, ?_⟩
    simp only [PyData.depth, PyData.shown]
    cases its with
    | nil =>
      cases h4
      simp only [PyData.shownAll, listText_nil]
      exact ReprK.listEmpty hget rfl rfl
    | cons x l => exact ReprK.list hget rfl rfl hna (by simpa using hk.length_eq) (fun i y e => hk.item i y (by simpa using e))
  | _, _, .tup (a := a) (ds := xs) q z ra, u, r, hn, hs, hz => by
    obtain rfl : u = .ref a := r
    obtain ⟨its, rv, ⟨o, ho, hc, n, hd⟩, _⟩ := I.tuple (sqt_mono sb q.sq)
    have hz' : (tupleText (PyData.shownAll xs)).length ≤ sizeLine := by simpa only [PyData.shown] using hz
    obtain ⟨⟨as, h4⟩, bs, hb, hk⟩ := den_rkAll I sb ra its rv (by unfold noDE at hn; exact hn) (by simpa [PyData.showable] using hs) (fun t ht => Nat.le_trans (tupleText_mem_le ht) hz')
    have r1 : Reads s.heap (.ref a) (.tuple xs) _ := .tuple ho hc hd h4
    have hna : a ∉ bs := not_mem_of_deeper r1 (by simp only [PyData.depth]; omega) hb
    refine ⟨⟨_, r1⟩, a :: bs, ReadAtMost.cons r1 (by simp only [PyData.depth]; omega) hb, ?_⟩
    simp only [PyData.depth, PyData.shown]
    exact ReprK.tuple ho hc hd hna hk
  | _, _, .emp (a := a) e, u, r, _, hs, hz => by
    obtain rfl : u = .ref a := r
    obtain ⟨_, hsm, vs, rel, o, es, ep, ho, hx, hd, _, hp, _⟩ := I.hok a _ (sb _ _ e)
    cases rel
    obtain ⟨l⟩ := es
    cases hp
    have r1 : Reads s.heap (.ref a) (.dict []) _ := .dict ho hx.1 hd .nil .nil
    refine ⟨⟨_, r1⟩, [a], ReadAtMost.cons r1 (n := 0) (Nat.zero_le _) (fun _ h => nomatch h), ?_⟩
    simp only [PyData.depth, PyData.shown, PyData.depthKv, PyData.shownKv]
    exact ReprK.dict ho hx.1 hd hsm (fun h => nomatch h) .nil
  | _, _, .dct _ _ _, _, _, hn, _, _ => by simp [noDE] at hn
  | _, _, .obj _ _ _, _, _, hn, _, _ => by simp [noDE] at hn
theorem den_rkAll (I : Inv X pins σ H s) (sb : Same G H) : ∀ {vs : List V} {ds : List D}, DenAll X.K G vs ds → ∀ us, Vals vs us → noDEAll ds = true → PyData.showableAll ds = true → (∀ t ∈ PyData.shownAll ds, t.length ≤ sizeLine) →
    (∃ as, ReadsAll s.heap us ds as) ∧ ∃ bs, ReadAtMost s.heap (PyData.depthAll ds) bs ∧ ReprAllK X.prog X.w bs s.heap (PyData.depthAll ds) us (PyData.shownAll ds)
  | _, _, .nil, us, r, _, _, _ => by
    cases r
    exact ⟨⟨_, .nil⟩, [], (fun _ h => nomatch h), by simp only [PyData.shownAll]; exact .nil⟩
  | _, _, .cons (d := d) (ds := ds) h ra, us, r, hn, hs, hz => by
    cases r with
    | cons r1 r2 =>
      unfold noDEAll at hn
      obtain ⟨n1, n2⟩ := Bool.and_eq_true_iff.mp hn
      have hs' : d.showable = true ∧ PyData.showableAll ds = true := by simpa [PyData.showableAll] using hs
      obtain ⟨⟨a1, q1⟩, b1, hb1, k1⟩ := den_rk I sb h _ r1 n1 hs'.1 (hz _ (by simp only [PyData.shownAll]; exact List.mem_cons_self ..))
      obtain ⟨⟨a2, q2⟩, b2, hb2, k2⟩ := den_rkAll I sb ra _ r2 n2 hs'.2 (fun t ht => hz t (by simp only [PyData.shownAll]; exact List.mem_cons_of_mem _ ht))
      refine ⟨⟨_, .cons q1 q2⟩, b1 ++ b2, ?_, ?_⟩
      · simp only [PyData.depthAll]
        exact (hb1.mono (Nat.le_max_left _ _)).append (hb2.mono (Nat.le_max_right _ _))
      · simp only [PyData.depthAll, PyData.shownAll]
        exact .cons ((k1.more fun b hb => List.mem_append_left _ hb).level_le (Nat.le_max_left _ _)) (k2.more_le (fun b hb => List.mem_append_right _ hb) (Nat.le_max_right _ _))
end
theorem call_reprE (hu : X.A.units + 200 < cLine) (hgd : X.A.guards = some []) : CallR X (.builtin "repr") (rReprE X.K) := by
  intro pins s σ H xs us Q I r h
  obtain ⟨x, d, G, rfl, sb, hd, hn, hs, hz, hsz, q⟩ := h
  obtain ⟨u, rfl, rx⟩ := vals1 r
  have fin : ∀ {h' : Heap} {tk : Nat} {t : Tok}, (∀ b o, s.heap.get? b = some o → h'.get? b = some o) → EP X pins σ Q (.str d.shown t) { s with heap := h', toks := tk } := fun k => ⟨.str d.shown, H, I.kept k, ⟨_, rfl⟩, q⟩
  cases hd with
  | non =>
    obtain rfl : u = .none := rx
    exact PySem.P.repr_of_none (fin fun _ _ e => e)
  | bl b =>
    obtain rfl : u = .bool b := rx
    exact PySem.P.repr_of_bool (fin fun _ _ e => e)
  | int i =>
    obtain ⟨t, rfl⟩ : ∃ t, u = .int i t := rx
    exact PySem.P.repr_of_int (by simpa [PyData.showable] using hs) (fin fun _ _ e => e)
  | str x _ _ =>
    obtain ⟨t, rfl⟩ : ∃ t, u = .str x t := rx
    exact PySem.P.repr_of_str (fin fun _ _ e => e) hsz
  | @lst a vs xs e z ra =>
    obtain rfl : u = .ref a := rx
    obtain ⟨_, its, n, rv, hget⟩ := I.hok a _ (sb _ _ e)
    have hz' : (listText (PyData.shownAll xs)).length ≤ sizeLine := by simpa only [PyData.shown] using hsz
    obtain ⟨⟨as, h4⟩, bs, hb, hk⟩ := den_rkAll I sb ra its rv (by unfold noDE at hn; exact hn) (by simpa [PyData.showable] using hs) (fun t ht => Nat.le_trans (listText_mem_le ht) hz')
    have r1 : Reads s.heap (.ref a) (.list xs) _ := .list hget rfl rfl h4
    have hna : a ∉ bs := not_mem_of_deeper r1 (by simp only [PyData.depth]; omega) hb
    simp only [PyData.depth] at hz
    refine call_repr_slot (by omega) ⟨_, hget, rfl⟩ F.slot_list_repr.toG ?_
    simp only [PyData.shown] at fin
    cases its with
    | nil =>
      cases h4
      simp only [PyData.shownAll, listText_nil] at fin
      exact call_list_repr_empty ⟨_, hget, rfl⟩ hget rfl ⟨_, _, rfl, fin (h' := s.heap) (tk := s.toks + 1) (t := s.toks) fun _ _ e => e⟩
    | cons x l =>
      exact call_list_reprK hget rfl rfl hna (by simpa using hk.length_eq) (fun i y e => hk.item i y (by simpa using e)) hgd (fun b _ => Clear.nil b) (by show X.A.units + 1 + (PyData.depthAll xs + 1) < cLine; omega) (fun _ _ e => e) (fun h' u tk hk => ⟨_, _, rfl, fin hk⟩) hz'
  | @tup a vs xs qq z ra =>
    obtain rfl : u = .ref a := rx
    obtain ⟨its, rv, ⟨o, ho, hc, n, hd⟩, _⟩ := I.tuple (sqt_mono sb qq.sq)
    have hz' : (tupleText (PyData.shownAll xs)).length ≤ sizeLine := by simpa only [PyData.shown] using hsz
    obtain ⟨⟨as, h4⟩, bs, hb, hk⟩ := den_rkAll I sb ra its rv (by unfold noDE at hn; exact hn) (by simpa [PyData.showable] using hs) (fun t ht => Nat.le_trans (tupleText_mem_le ht) hz')
    have r1 : Reads s.heap (.ref a) (.tuple xs) _ := .tuple ho hc hd h4
    have hna : a ∉ bs := not_mem_of_deeper r1 (by simp only [PyData.depth]; omega) hb
    simp only [PyData.depth] at hz
    refine call_repr_slot (by omega) ⟨_, ho, hc⟩ F.slot_tuple_repr ?_
    simp only [PyData.shown] at fin
    exact call_tuple_reprK ho hc hd hna hk hgd (fun b _ => Clear.nil b) (by show X.A.units + 1 + (PyData.depthAll xs + 1) < cLine; omega) (fun _ _ e => e) (fun h' u tk hk => ⟨_, _, rfl, fin hk⟩) hz'
  | @emp a e =>
    obtain rfl : u = .ref a := rx
    obtain ⟨_, hsm, vs, rel, o, es, ep, ho, hx, hd, _, hp, _⟩ := I.hok a _ (sb _ _ e)
    cases rel
    obtain ⟨l⟩ := es
    cases hp
    exact repr_of_reads' (Reads.dict ho hx.1 hd .nil .nil) hs (fun _ hm => by
      have hm : sysModules ∈ [a] := hm
      rw [List.mem_singleton.mp hm] at hsm
      simp at hsm) hgd (by omega) (fun _ _ e => e) (fun h' u tk k => fin k) hsz
  | dct _ _ _ => simp [noDE] at hn
  | obj _ _ _ => simp [noDE] at hn
end
theorem d_reprE {K : PySem.W.Frag} : RCD K (rReprE K) reprE := by
  intro vs ds d G H Q s da e k
  match ds, e with
  | [x], e =>
    simp only [reprE] at e
    split at e
    · cases e
      rename_i h
      match vs, da with
      | [v], .cons dv .nil => exact ⟨v, x, G, rfl, s.same, dv, h.2.2.2.2, h.1, h.2.1, h.2.2.1, k _ G H (.refl s) (.str _ h.2.2.1 h.2.2.2.1)⟩
    · cases e
end
section
variable {TBL : TabL}
section
variable {X : Cx} {K : PySem.W.Frag}
def rTup0 (K : PySem.W.Frag) (n : Bool) : R2 := fun x y H Q => ∃ p q xs, x = .ref p ∧ y = .ref q ∧ SqT K H p xs ∧ SqT K H q [] ∧ Q (.bl (if n then !xs.isEmpty else xs.isEmpty)) H
theorem o_neT0 (hu : X.A.units + 65 < cLine) : OpR X (compareOp .NotEq) (rTup0 X.K true) := by
  intro pins s σ H x y v u Q I rx ry h
  obtain ⟨p, q, xs, rfl, rfl, h1, h2, k⟩ := h
  obtain rfl : v = .ref p := rx
  obtain rfl : u = .ref q := ry
  obtain ⟨its, rv, t1, _⟩ := I.tuple h1
  obtain ⟨its2, rv2, t2, _⟩ := I.tuple h2
  cases rv2
  refine SeqAt.RcNeAt.tuples (A := X.A) (s := s) (e := fun _ => true) t1 t2 (by omega) (fun j _ h2 => absurd h2 (by simp)) X.prog X.w _ _ ?_
  refine ⟨.bl (!xs.isEmpty), H, I, ?_, k⟩
  cases rv <;> rfl
def neT0 : D → D → Option D
  | .tuple xs, .tuple [] => some (.bool (!xs.isEmpty))
  | _, _ => none
theorem d_neT0 : R2D K (rTup0 K true) neT0 := by
  intro x y dx dy d G H Q s d1 d2 e k
  cases d1 with
  | @tup p vs xs q1 z1 r1 =>
    cases d2 with
    | @tup q ws ys q2 z2 r2 =>
      cases r2 with
      | nil =>
        cases e
        refine ⟨p, q, vs, rfl, rfl, sqt_mono s.same q1.sq, sqt_mono s.same q2.sq, k _ G H (.refl s) ?_⟩
        cases r1 <;> exact .bl _
      | cons _ _ => cases e
    | _ => cases e
  | _ => cases e
end
end
theorem tb_data {o : Obj} (e : o = { cls := .none, data := .fields #[] }) {d : Data} (hd : o.data = d) (n : d ≠ .fields #[]) : False := by
  subst e
  exact n hd.symm
def hpT (cs : List (Addr × Addr)) (q : Option (Addr × HO)) : Hp := fun b => match q with
  | some (a, o) => if b = a then some o else if b ∈ cs.map (·.2) then some (.tbl #[]) else none
  | none => if b ∈ cs.map (·.2) then some (.tbl #[]) else none
theorem hpT_tab {cs : List (Addr × Addr)} {q : Option (Addr × HO)} (n : ∀ a o, q = some (a, o) → a ∉ cs.map (·.2)) {p : Addr × Addr} (hp : p ∈ cs) : hpT cs q p.2 = some (.tbl #[]) := by
  have m : p.2 ∈ cs.map (·.2) := List.mem_map.mpr ⟨p, hp, rfl⟩
  unfold hpT
  cases q with
  | none => exact if_pos m
  | some r =>
    obtain ⟨a, o⟩ := r
    dsimp only
    rw [if_neg (fun z : p.2 = a => n a o rfl (by rw [← z]; exact m)), if_pos m]
theorem hpT_of {cs : List (Addr × Addr)} {q : Option (Addr × HO)} {b : Addr} {u : HO} (e : hpT cs q b = some u) : (∃ a o, q = some (a, o) ∧ b = a ∧ u = o) ∨ (b ∈ cs.map (·.2) ∧ u = .tbl #[]) := by
  unfold hpT at e
  cases q with
  | none =>
    dsimp only at e
    split at e
    · rename_i h; cases e; exact .inr ⟨h, rfl⟩
    · cases e
  | some r =>
    obtain ⟨a, o⟩ := r
    dsimp only at e
    split at e
    · rename_i h; cases e; exact .inl ⟨a, _, rfl, h, rfl⟩
    · split at e
      · rename_i h; cases e; exact .inr ⟨h, rfl⟩
      · cases e
theorem callGT {P : Program} {w : World} {K : PySem.W.Frag} {mg mb : Str → Option Value} {k : Nat} {fa a : Addr} {fd : FuncData} {x : Str} {sp : Sp} {s : Shared} {vs : List Value} {ns : List Int} {cs : List (Addr × Addr)}
    (inK : K.In s.heap) (hg1 : s.heap.Ns mainGlobals mg) (hb1 : s.heap.Ns builtinsNs mb) (hb2 : ∀ y : Str, y ≠ "__name__" → mb y = bootBuiltins y) (lim : s.heap.NoLimit) (hgens : s.gens = #[])
    (hT : ∀ p ∈ cs, s.heap.get? p.2 = some { cls := .none, data := .fields #[] }) (nT : ∀ p ∈ cs, K.lookup p.2 = none) (hC : ∀ p ∈ cs, PySem.W.CodeHd s.heap p.1 p.2)
    (hbm : ∃ (bm : Addr) (ob : Obj), mg "__builtins__" = some (.ref bm) ∧ bm ≠ builtinsNs ∧ s.heap.get? bm = some ob ∧ ob.cls = .type "module" ∧ ob.dict = some builtinsNs ∧ ob.data = .plain)
    (hlist : s.heap.get? a = some { cls := .type "list", data := .seq vs.toArray }) (hints : IntsAre vs ns) (hsize : ns.length ≤ sizeLine) (room : Room k callerA)
    (F : ∀ base : Heap, K.In base → base.Ns mainGlobals mg → (∀ p ∈ cs, LamX.TabB base mg p.1 p.2) → FnG P w K mg base CX0 k fa fd [x] sp) (hbind : ∀ (s : Shared) (u : Value), BindsTo s fd ⟨[u], []⟩ [(x, u)])
    (hsp : ∀ H : Hp, (∀ p ∈ cs, H p.2 = some (.tbl #[])) → SqL K H a (ns.map V.int) → sp [.ref a] H (fun v _ => v = .bl true) E0) :
    codeAny (model P w) callerA (.call (.ref fa) ⟨[.ref a], []⟩) (fun r s' => r = .ok (.ret (.bool true)) ∧ OldK s.heap s'.heap ∧ s'.os = s.os ∧ AllBare s'.gens) s := by
  have rv := vals_ints hints
  have lv := hints.length
  let sobj : Obj := { cls := .type "list", data := .seq vs.toArray }
  have isT : ∀ {b : Addr}, b ∈ cs.map (·.2) → s.heap.get? b = some { cls := .none, data := .fields #[] } := fun {b} hb => by
    obtain ⟨p, hp, rfl⟩ := List.mem_map.mp hb
    exact hT p hp
  have aT : a ∉ cs.map (·.2) := fun z => by
    have q := isT z
    rw [hlist] at q
    exact tb_data (Option.some.inj q) rfl nofun
  -- q: whether the script is tracked
  have main : ∀ q : Option (Addr × HO), (∀ b u, q = some (b, u) → b = a ∧ u = .frz sobj (.lst (ns.map V.int)) ∧ K.lookup a = none) → SqL K (hpT cs q) a (ns.map V.int) →
      codeAny (model P w) callerA (.call (.ref fa) ⟨[.ref a], []⟩) (fun r s' => r = .ok (.ret (.bool true)) ∧ OldK s.heap s'.heap ∧ s'.os = s.os ∧ AllBare s'.gens) s := by
    intro q hq hS
    have nq : ∀ b u, q = some (b, u) → b ∉ cs.map (·.2) := fun b u e => by
      rw [(hq b u e).1]
      exact aT
    have hok : HOk P w (hpT cs q) s.heap := fun b u z => by
      rcases hpT_of z with ⟨b', o, e, rfl, rfl⟩ | ⟨hb, rfl⟩
      · obtain ⟨rfl, rfl, _⟩ := hq _ _ e
        exact ⟨hlist, by rw [List.length_map]; exact hsize, vs, _, rv, hlist⟩
      · exact isT hb
    -- what is neither the script nor a table is in the base
    have free : ∀ {b : Addr} {o : Obj}, s.heap.get? b = some o → (∀ l n, o.data ≠ .seq l n) → o.data ≠ .fields #[] → hpT cs q b = none := fun {b o} g n1 n2 => by
      cases z : hpT cs q b with
      | none => rfl
      | some u =>
        rcases hpT_of z with ⟨b', o', e, rfl, rfl⟩ | ⟨hb, rfl⟩
        · obtain ⟨rfl, _⟩ := hq _ _ e
          rw [hlist] at g
          cases g
          exact absurd rfl (n1 _ _)
        · rw [isT hb] at g
          cases g
          exact absurd rfl n2
    have toBase : ∀ {b : Addr} {o : Obj}, s.heap.get? b = some o → hpT cs q b = none → (hidT s.heap (hpT cs q)).get? b = some o := fun g n => hidT_get g n
    have nsBase : ∀ {b : Addr} {m : Str → Option Value}, s.heap.Ns b m → (hidT s.heap (hpT cs q)).Ns b m := fun {b m} ⟨o, es, ep, g, d, rest⟩ =>
      ⟨o, es, ep, toBase g (free g (fun l n z => by rw [d] at z; cases z) fun z => by rw [d] at z; cases z), d, rest⟩
    have inBase : K.In (hidT s.heap (hpT cs q)) := fun b o g => toBase (inK b o g) (by
      cases z : hpT cs q b with
      | none => rfl
      | some u =>
        rcases hpT_of z with ⟨b', o', e, rfl, rfl⟩ | ⟨hb, rfl⟩
        · obtain ⟨rfl, _, e3⟩ := hq _ _ e
          rw [e3] at g; cases g
        · obtain ⟨p, hp, rfl⟩ := List.mem_map.mp hb
          rw [nT p hp] at g; cases g)
    have TB : ∀ p ∈ cs, LamX.TabB (hidT s.heap (hpT cs q)) mg p.1 p.2 := fun p hp => by
      refine ⟨?_, ?_, fun z => ?_⟩
      · obtain ⟨o, us, file, tf, flags, tg, inF, text, tt, e1, r1, r2, r3, r⟩ := hC p hp
        refine ⟨o, us, file, tf, flags, tg, inF, text, tt, toBase e1 (free e1 (fun l n z => by rw [r2] at z; cases z) fun z => ?_), r1, r2, r3, r⟩
        rw [r2] at z
        cases z
        simp at r3
      · obtain ⟨bm, ob, b1, b2, b3, b4, b5, b6⟩ := hbm
        refine ⟨bm, ob, b1, b2, fun z => ?_, fun z => ?_, toBase b3 (free b3 (fun l n z => by rw [b6] at z; cases z) fun z => by rw [b6] at z; cases z), b4, b5, b6⟩
        · obtain ⟨o, es, ep, e, hd, _⟩ := hg1
          rw [z, e] at b3
          cases b3
          rw [hd] at b6
          cases b6
        · rw [z, hT p hp] at b3
          cases b3
          cases b6
      · obtain ⟨o, es, ep, e, hd, _⟩ := hg1
        rw [z, hT p hp] at e
        cases e
        cases hd
    have env : Env0 P w K mg (hidT s.heap (hpT cs q)) callerA [] s (hpT cs q) :=
      { frames := rfl
        mod := { kin := inBase, glob := nsBase hg1, blt := ⟨mb, nsBase hb1, hb2⟩, nolimit := by obtain ⟨c, z1, z2⟩ := lim; exact ⟨c, nsBase z1, z2⟩ }
        bs := fun b o q => of_hidT q
        bsz := Nat.le_of_eq (hidT_size _ _)
        funs := trivial
        frf := fun b hb => by cases hb
        hok := hok
        bare := .of_eq hgens }
    refine codeAny_mono ((F _ inBase (nsBase hg1) TB).run callerA [] s (hpT cs q) ⟨[.ref a], []⟩ [.ref a] [.ref a] _ _ room rfl env (hbind s (.ref a)) (.cons rfl .nil) (hsp _ (fun p hp => hpT_tab nq hp) hS)) fun r s2 hr => ?_
    match r, hr with
    | .error e, hr => exact hr.elim
    | .ok .next, hr => exact hr.elim
    | .ok .brk, hr => exact hr.elim
    | .ok .cont, hr => exact hr.elim
    | .ok (.ret u), ⟨v, H2, os, bare, un, hok2, rel, hv⟩ =>
      subst hv
      cases (show u = Value.bool true from rel)
      have stays : ∀ b o, b ∉ cs.map (·.2) → s.heap.get? b = some o → s2.heap.get? b = some o := fun b o nb g => by
        cases z : hpT cs q b with
        | none => exact un.keep b o g z (fun y => by cases y) (fun y => by cases y)
        | some u =>
          rcases hpT_of z with ⟨b', o', e, rfl, rfl⟩ | ⟨hb, _⟩
          · obtain ⟨rfl, rfl, _⟩ := hq _ _ e
            obtain ⟨y1, _⟩ := hok _ _ z
            obtain ⟨y2, _⟩ := hok2 _ _ (un.frzs _ _ _ z)
            rw [g] at y1
            cases y1
            exact y2
          · exact absurd hb nb
      have grown : ∀ p ∈ cs, ∃ more : Array Value, s2.heap.get? p.2 = some { cls := .none, data := .fields more } := fun p hp => by
        obtain ⟨more, z⟩ := un.tbls p.2 #[] (hpT_tab nq hp)
        exact ⟨_, hok2 p.2 _ z⟩
      refine ⟨rfl, ⟨fun b o g => ?_, fun b o g => ?_⟩, os, bare⟩
      · by_cases hb : b ∈ cs.map (·.2)
        · obtain ⟨p, hp, rfl⟩ := List.mem_map.mp hb
          obtain ⟨more, hm⟩ := grown p hp
          rw [hT p hp] at g
          cases g
          exact .inr (.inl ⟨((hC p hp).tab (hT p hp)).isCodeTable, rfl, #[], more, rfl, by rw [Array.empty_append]; exact hm⟩)
        · exact .inl (stays b o hb g)
      · by_cases hb : b ∈ cs.map (·.2)
        · obtain ⟨p, hp, rfl⟩ := List.mem_map.mp hb
          obtain ⟨more, hm⟩ := grown p hp
          exact ⟨_, hm⟩
        · exact ⟨o, stays b o hb g⟩
  cases hk : K.lookup a with
  | some o =>
    have g := inK a o hk
    rw [hlist] at g
    cases g
    exact main none (fun b u z => by cases z) (.inr ⟨_, vs.toArray, _, hk, rfl, rfl, rfl, by rw [List.size_toArray, lv]; exact hsize, by simpa using rv⟩)
  | none => exact main (some (a, .frz sobj (.lst (ns.map V.int)))) (fun b u z => by cases z; exact ⟨rfl, rfl, hk⟩) (.inl (.inr ⟨sobj, by unfold hpT; exact if_pos rfl⟩))
def TabsAt (K : PySem.W.Frag) (q : Program) (h : Heap) : Prop := ∀ (x : Str) (c P : Addr), ((recsOf q).any fun e => e.name == x) = true → PySem.W.tabIn K x = some (c, P) → PySem.W.CodeHd h c P ∧ h.get? P = some { cls := .none, data := .fields #[] }
theorem tabIn_code {K : PySem.W.Frag} {x : Str} {f c P : Addr} {oc : Value} {od : Option Addr} {fd : FuncData} {osl : Array (Option Value)} (a : PySem.W.nsIn K mainGlobals x = some (some (.ref f))) (l : K.lookup f = some ⟨oc, od, .func fd, osl⟩) (t : PySem.W.tabIn K x = some (c, P)) : fd.code = .ref c := by
  unfold PySem.W.tabIn at t
  rw [a] at t
  dsimp only at t
  rw [l] at t
  dsimp only at t
  split at t
  · rename_i c' hc
    split at t
    · split at t
      · cases t; exact hc
      · cases t
    · cases t
  · cases t
theorem tabIn_mk {K : PySem.W.Frag} {x : Str} {f c P : Addr} {oc x1 : Value} {od x2 : Option Addr} {fd : FuncData} {osl x3 : Array (Option Value)} {vs : Array Value} (a : PySem.W.nsIn K mainGlobals x = some (some (.ref f))) (l : K.lookup f = some ⟨oc, od, .func fd, osl⟩) (e : fd.code = .ref c)
    (m : K.lookup c = some ⟨x1, x2, .fields vs, x3⟩) (v : vs[11]? = some (.ref P)) : PySem.W.tabIn K x = some (c, P) := by
  unfold PySem.W.tabIn
  rw [a]
  dsimp only
  rw [l]
  dsimp only
  rw [e]
  dsimp only
  rw [m]
  dsimp only
  rw [v]
theorem walkGT {l : PySem.W.OpenLaw} {n k : Nat} {q : Program} {loose : List Str} {XP : (Str → Option Value) → Heap → Prop} {YP : World → Heap → Prop} {d : DefRec} {K : Params → PySem.W.Frag} {x : Str}
    (hn : l.most = some n) (hn2 : n ≤ sizeLine) (hdf : d.params.defaults = []) (room : Room k callerA) (hY : ∀ (w : World) (h : Heap), YP w h → (K w.params).In h)
    (F : ∀ (w : World) (mg : Str → Option Value) (fa : Addr) (h : Heap), (K w.params).In h → h.Ns mainGlobals mg → mg d.name = some (.ref fa) → TabsAt (K w.params) q h →
      ∃ (fd : FuncData) (cs : List (Addr × Addr)) (sp : Sp), (∀ p ∈ cs, h.get? p.2 = some { cls := .none, data := .fields #[] }) ∧ (∀ p ∈ cs, (K w.params).lookup p.2 = none) ∧ (∀ p ∈ cs, PySem.W.CodeHd h p.1 p.2) ∧ (∀ (s : Shared) (u : Value), BindsTo s fd ⟨[u], []⟩ [(x, u)]) ∧
        (∀ base : Heap, (K w.params).In base → base.Ns mainGlobals mg → (∀ p ∈ cs, LamX.TabB base mg p.1 p.2) → FnG l.prog w (K w.params) mg base CX0 k fa fd [x] sp) ∧
        ∀ (H : Hp) (a : Addr) (ns : List Int), ns.length ≤ n → (∀ p ∈ cs, H p.2 = some (.tbl #[])) → SqL (K w.params) H a (ns.map V.int) → sp [.ref a] H (fun v _ => v = .bl true) E0) :
    PySem.W.WalkO q loose XP YP l.row.toRowW d [] (fun f vs => PySem.call f vs) :=
  Att.attach_call hn hdf fun w s₀ s₁ mg mb fa o pm cd doc a vs ns G Y ho hd hcd hmg hobj hints hlen hg => by
    obtain ⟨fd, cs, sp, t1, t2, t3, hb, hF, hsp⟩ := F w mg fa _ (hY w _ Y) G.T.g hmg (fun x c P hr ht => by
      cases e : (recsOf q).find? (fun e => e.name == x) with
      | some d => exact PySem.W.tab_of G.T (hY w _ Y) e ht
      | none =>
        obtain ⟨y, hy, ey⟩ := List.any_eq_true.mp hr
        exact absurd ey (by simpa using List.find?_eq_none.mp e y hy))
    exact callGT (hY w _ Y) G.T.g G.T.b G.T.builtins G.T.nolimit hg t1 t2 t3 G.T.bmain hobj hints (Nat.le_trans hlen hn2) room hF hb fun H hH hS => hsp H a ns hlen hH hS
section
variable {TBL : TabL}
def OutR [TabL] (K : PySem.W.Frag) (mg : Str → Option Value) (G H : Hp) (r : Except Exc D) (Q : VK) (E : XK) : Prop := match r with
  | .ok d => ∀ v G' H', Step G H (fun _ => False) G' H' (fun _ => False) → Den K G' v d → Q v H'
  | .error e => ∀ cls d G' H', ExcIs K G' mg e cls d → Step G H (fun _ => False) G' H' (fun _ => False) → E cls d H'
structure Deed [TabL] (P : Program) (w : World) (K : PySem.W.Frag) (mg : Str → Option Value) (base : Heap) (k : Nat) (outer : List Env) (f : Addr) (s : Shared) (G0 H0 : Hp) (r : Except Exc D) : Prop where
  isF : ∀ (s1 : Shared) (H1 : Hp), L2.Un (frs outer) [] H0 H1 s.heap s1.heap → PySem.W.FnAt f s1.heap
  run : ∀ (A1 : Around) (outer1 : List Env) (s1 : Shared) (G1 H1 : Hp) (Q : VK) (E : XK), Room k A1 → A1.guards = some [] → Env0 P w K mg base A1 outer1 s1 H1 → L2.Un (frs outer) [] H0 H1 s.heap s1.heap → Sub G1 H1 → SameX G0 G1 → OutR K mg G1 H1 r Q E →
    codeAny (model P w) A1 (.call (.ref f) ⟨[], []⟩) (CR (L2.CX P w) outer1 P w H1 s1 Q E) s1
theorem SameX.trans {G G1 G2 : Hp} (a : SameX G G1) (b : SameX G1 G2) : SameX G G2 := fun c o e n => b c o (a c o e n) n
theorem SameX.refl (G : Hp) : SameX G G := fun c o e n => e
def R0d (G0 : Hp) (f : Addr) : StI Exc := ⟨fun G _ v _ fp => v = .ref f ∧ SameX G0 G ∧ ∀ b, ¬ fp b, fun h s _ => ⟨h.1, h.2.1.trans s, h.2.2⟩, fun h a ha => absurd ha (h.2.2 a), fun h a ha => absurd ha (h.2.2 a)⟩
def mark : Exc := ⟨"", none⟩
def onlyD {S S' : Type} (ds : DS S) : DS S' := ds.map fun o => match o with
  | some (.d x) => some (.d x)
  | _ => none
section
variable {S S' : Type} {K : PySem.W.Frag} {R : StI S} {R' : StI S'} {σ : L2.St} {G H G' H' : Hp} {F : Nat → Addr → Prop} {ds : DS S}
theorem onlyD_some {i : Nat} {m : MO S'} (e : (onlyD ds : DS S')[i]? = some (some m)) : ∃ x, m = .d x ∧ ds[i]? = some (some (.d x)) := by
  unfold onlyD at e
  rw [List.getElem?_map] at e
  cases h : ds[i]? with
  | none => rw [h] at e; cases e
  | some o =>
    rw [h] at e
    cases o with
    | none => cases e
    | some m2 =>
      cases m2 with
      | d x => cases e; exact ⟨x, rfl, rfl⟩
      | lst _ => cases e
      | st _ => cases e
      | scr _ => cases e
      | dic _ => cases e
      | lk _ => cases e
      | dp _ => cases e
      | obj _ _ => cases e
theorem RS.onlyD (r : RS K R ds σ G H F) (sb : Sub G' H') (sx : SameX G G') : RS K R' (onlyD ds) σ G' H' (fun _ _ => False) := ⟨sb, by unfold DL.onlyD; rw [List.length_map]; exact r.len, fun i m e => by
  obtain ⟨x, rfl, e2⟩ := onlyD_some e
  obtain ⟨v, h1, h2, _⟩ := r.own i _ e2
  exact ⟨v, h1, h2.off sx, fun _ z => z⟩, fun _ _ _ z => z, fun _ _ _ z => z.elim, fun _ _ z => z.elim⟩
theorem RS.wipeA (r : RS K R ds σ G H F) : RS K R' (ds.map fun _ => none) σ G H (fun _ _ => False) := ⟨r.sub, by rw [List.length_map]; exact r.len, (fun i m e => by rw [List.getElem?_map] at e; cases h : ds[i]? <;> rw [h] at e <;> cases e), fun _ _ _ z => z, fun _ _ _ z => z.elim, fun _ _ z => z.elim⟩
end
def gFin (o : Option (Out Exc)) : Option (Out Exc) := o.bind fun o => match o with
  | .rt m ds2 => if dataM m = true then some (.rt m (ds2.map fun _ => none)) else none
  | _ => none
theorem gFin_some {o : Option (Out Exc)} {u : Out Exc} (e : gFin o = some u) : ∃ m ds2, o = some (.rt m ds2) ∧ dataM m = true ∧ u = .rt m (ds2.map fun _ => none) := by
  unfold gFin at e
  cases o with
  | none => cases e
  | some o =>
    cases o with
    | nx _ => cases e
    | bk _ => cases e
    | ct _ => cases e
    | rt m ds2 =>
      simp only [Option.bind_some] at e
      by_cases h : dataM m = true
      · rw [if_pos h] at e; cases e; exact ⟨m, ds2, rfl, h, rfl⟩
      · rw [if_neg h] at e; cases e
def setO (ds : DS Exc) (jo : Option Nat) (d : D) : DS Exc := match jo with
  | none => ds
  | some j => ds.set j (some (.d d))
def gTryD (kn : List Str) (i j : Nat) (jo : Option Nat) (q : Except Exc D) (r : SF Exc) : SF Exc := fun ds => (stAt ds 0).bind fun _ => match q with
  | .ok d => gFin (r (setO (onlyD ds) jo d))
  | .error e => if e.nm ∈ kn ∧ i < ds.length then gFin (r ((((onlyD ds : DS Exc).set i (some (.st e))).set j (some (.st e))).set i none)) else none
def tDeed [TabL] (K : PySem.W.Frag) (mg : Str → Option Value) (G0 : Hp) (f : Addr) (jo : Option Nat) (q : Except Exc D) (W : WX) : TS := fun Dn σ H => σ[0]? = some (some (.ref f)) ∧ ∃ G1, Sub G1 H ∧ SameX G0 G1 ∧
  OutR K mg G1 H q (fun v H' => Dn.nx (match jo with | none => σ | some j => σ.set j (some v)) H') fun cls d H' => W cls d σ H'
section
variable {X : Cx} {W : WX} {k i j : Nat} {f : Addr} {G0 : Hp} {q : Except Exc D} {a x n y : Str} {c : Value} {jo : Option Nat} {body rest : List Stmt} {p1 p2 p3 p4 p5 np pos pos' : Pos} {kn : List Str} {r : SF Exc}
theorem pe_deed (hD : Deed X.prog X.w X.K X.mg X.base k X.outer f X.s_0 G0 X.H_0 q) (hex : X.ex = []) (tk : Takes X W) (hr : Room k X.A) (hgd : X.A.guards = some []) (hv : PE X (.Name a p1) (tVar i)) :
    PE X (.Call (.Name a p1) [] [] p2) (fun σ H Q => σ[i]? = some (some (.ref f)) ∧ ∃ G1, Sub G1 H ∧ SameX G0 G1 ∧ OutR X.K X.mg G1 H q Q fun cls d H' => W cls d σ H') := by
  refine ⟨fun pins s σ H Q I h => ?_⟩
  obtain ⟨h1, G1, sb, sx, ho⟩ := h
  refine wpAny_Call_Name_kw (thn (hv.run pins s σ H (fun v H1 => v = .ref f ∧ H1 = H) I ⟨.ref f, h1, rfl, rfl⟩) ?_)
  rintro u s1 ⟨v, H1, I1, r1, rfl, rfl⟩
  obtain rfl : u = Value.ref f := r1
  have un : L2.Un X.fs X.ex X.H_0 H1 X.s_0.heap s1.heap := I1.base
  rw [hex] at un
  refine PySem.W.callWith_F0 (hD.isF _ _ un) ?_
  refine wpAny_call (codeAny_mono (hD.run X.A X.stack s1 G1 H1 Q _ hr hgd I1.env0 un sb sx ho) fun res s2 hq => ?_)
  match res, hq with
  | .error er, hq => exact passAt tk σ pins H1 s1 er s2 I1 hq
  | .ok (.ret u), hq => exact I1.after hq
  | .ok .next, hq => exact hq.elim
  | .ok .brk, hq => exact hq.elim
  | .ok .cont, hq => exact hq.elim
theorem sd_call (h : PE X (.Call (.Name a p1) [] [] p2) (fun σ H Q => σ[0]? = some (some (.ref f)) ∧ ∃ G1, Sub G1 H ∧ SameX G0 G1 ∧ OutR X.K X.mg G1 H q Q fun cls d H' => W cls d σ H'))
    (hs : swapsWith (.Call (.Name a p1) [] [] p2) none p3.line X.env = pure false := by rfl) : PSs X [.Expr (.Call (.Name a p1) [] [] p2) p3] (tDeed X.K X.mg G0 f none q W) :=
  PSs.imp (pss_one (ps_expr h hs)) fun Dn σ H ⟨h1, G1, sb, sx, ho⟩ => ⟨h1, G1, sb, sx, ho⟩
theorem ss_tryD (hs : X.stack = X.env :: X.outer) (hf : X.env.frame = some X.env.locals) (hN : X.N.Nodup) (hi : X.N[i]? = some n) (hln : X.env.kindOf n = some .local) (hc : Names X x c)
    (hk : ∀ e ∈ kn, ∃ C, X.mg e = some (.ref C) ∧ PySem.W.exmOne X.K (.ref C) c = some true)
    (hb : ∀ (W : WX) (pn : List (Addr × Obj)) (xe : Value → Shared → Prop), Takes (X.tr pn xe) W → PSs (X.tr pn xe) body (tDeed X.K X.mg G0 f jo q W))
    (hsu : ∀ (a : Addr) (oe : Obj) (cls : Value) (d : Option Addr) (pn : List (Addr × Obj)), PS (X.suite a ((a, oe) :: pn)) (.Assign [.Name y p1] (.Name n p2) p3) (tS X.K (R1e X.K X.mg a cls d) [] (gAsg j (xStV i))))
    (hr : ∀ (a : Addr) (oe : Obj) (cls : Value) (d : Option Addr) (pn : List (Addr × Obj)), Zc cls d oe → (∃ vs, oe.data = .fields vs) → PSs (X.tr ((a, oe) :: pn) X.xe) rest (tS X.K (R1e X.K X.mg a cls d) [] r))
    (h0 : PSs X rest (tS X.K R0e [] r)) : PSs X (.Try body [.ExceptHandler (some (.Name x np)) (some n) [.Assign [.Name y p1] (.Name n p2) p3] pos'] [] [] pos :: rest) (tS X.K (R0d G0 f) [] (gTryD kn i j jo q r)) := by
  refine PSs.imp (pss_try_keep (tb := fun W => tDeed X.K X.mg G0 f jo q W) (ts := fun a cls d => tS X.K (R1e X.K X.mg a cls d) [] (gAsg j (xStV i))) (tr := fun a cls d => tS X.K (R1e X.K X.mg a cls d) [] r) (t0 := tS X.K R0e [] r) hs hf hN hi hln hc
    (fun W pn xe tk _ => hb W pn xe tk) (fun a oe cls d pn z1 z2 => pss_one (hsu a oe cls d pn)) (fun a oe cls d pn z1 z2 => hr a oe cls d pn z1 z2) h0) ?_
  rintro Dn σ H ⟨G, F, ds, o, rr, e, kk⟩
  unfold gTryD at e
  cases es : stAt ds 0 with
  | none => rw [es] at e; cases e
  | some mk =>
    rw [es, Option.bind_some] at e
    obtain ⟨v0, hv0, rfl, sx0, _⟩ := rr.own 0 _ (stAt_some es)
    refine ⟨hv0, G, rr.sub, sx0, ?_⟩
    cases q with
    | ok d =>
      obtain ⟨m, ds2, er, dm, rfl⟩ := gFin_some e
      intro v G' H' st dv
      have r1 : RS X.K R0e (DL.onlyD ds) σ G' H' (fun _ _ => False) := rr.onlyD st.sub (SameX.of st.keep)
      have nf : Step G H (fun a => ∃ i, F i a) G' H' (fun _ => False) := st.pre fun _ z => z.elim
      have go : ∀ (σ2 : L2.St) (F2 : Nat → Addr → Prop), RS X.K R0e (setO (DL.onlyD ds) jo d) σ2 G' H' F2 → (∀ a, (∃ j, F2 j a) → False) → tS X.K R0e [] r Dn σ2 H' := fun σ2 F2 r2 w2 => by
        refine ⟨G', F2, _, _, r2, er, ?_⟩
        intro v4 σ4 G4 H4 F4 fr u4 s4 o4 n4 g4 _
        have s5 : Step G H (fun a => ∃ i, F i a) G4 H4 (fun b => (∃ (i : Nat), False) ∨ fr b) := (nf.trans (s4.pre w2)).weaken fun b z => z.elim (fun q => q.elim fun _ w => w.elim) fun q => Or.inr q
        refine kk v4 σ4 G4 H4 (fun _ _ => False) fr u4.wipeA s5 ?_ (fun b hb ⟨_, q⟩ => q) g4 fun i hi => by cases hi
        cases m with
        | d x => exact o4
        | lst xs => exact o4
        | st s => cases dm
        | scr ns => cases dm
        | dic kvs => cases dm
        | lk kvs => cases dm
        | dp x => cases dm
        | obj x fs => cases dm
      cases jo with
      | none => exact go σ _ r1 fun a ⟨_, z⟩ => z
      | some j1 =>
        obtain ⟨F2, r2, w2⟩ := r1.setd j1 dv
        exact go _ F2 r2 fun a z => (w2 a z).elim fun _ z => z
    | error x1 =>
      dsimp only at e
      by_cases hx : x1.nm ∈ kn ∧ i < ds.length
      · rw [if_pos hx] at e
        obtain ⟨m, ds2, er, dm, rfl⟩ := gFin_some e
        obtain ⟨C0, hC0, hm0⟩ := hk x1.nm hx.1
        intro cls d G' H' xi s
        have xi0 := xi
        obtain ⟨⟨C, hC, rfl⟩, _⟩ := xi
        rw [hC0] at hC
        cases hC
        refine ⟨hm0, fun a na => ?_⟩
        have u0 : RS X.K (R1e X.K X.mg a (.ref C0) d) (DL.onlyD ds) σ G' H' (fun _ _ => False) := rr.onlyD s.sub (SameX.of s.keep)
        have nf : Step G H (fun a => ∃ i, F i a) G' H' (fun _ => False) := s.pre fun _ z => z.elim
        have st : ∀ {H : Hp}, (R1e X.K X.mg a (.ref C0) d).rel G' H (.ref a) x1 fun _ => False := ⟨rfl, xi0, fun _ z => z⟩
        obtain ⟨F1, u1, w1⟩ := u0.seto i (v := .ref a) (m := .st x1) (fr := fun _ => False) st (fun _ z => z.elim) fun _ z => z.elim
        have hl : i < (DL.onlyD ds : DS Exc).length := by unfold DL.onlyD; rw [List.length_map]; exact hx.2
        have es : stAt ((DL.onlyD ds : DS Exc).set i (some (.st x1))) i = some x1 := by
          unfold stAt
          rw [List.getElem?_set_self hl]
        refine ⟨G', F1, _, .nx (((DL.onlyD ds : DS Exc).set i (some (.st x1))).set j (some (.st x1))), u1, by unfold gAsg xStV; rw [es]; rfl, ?_⟩
        intro σ2 G2 H2 F2 u2 s2 _ n2
        obtain ⟨F3, u3, w3⟩ := u2.setn i
        refine ⟨G2, F3, _, _, u3, er, ?_⟩
        intro v σ4 G4 H4 F4 fr u4 s4 o4 n4 g4 _
        have s5 : Step G H (fun a => ∃ i, F i a) G4 H4 (fun b => (∃ (i : Nat), False) ∨ fr b) := (nf.trans ((s2.pre fun b z => (w1 b z).elim (fun ⟨_, z⟩ => z) False.elim).trans (s4.pre w3))).weaken fun b z => z.elim (fun q => q.elim fun _ w => w.elim) fun q => Or.inr q
        refine kk v σ4 G4 H4 (fun _ _ => False) fr u4.wipeA s5 ?_ (fun b hb ⟨_, q⟩ => q) g4 fun i hi => by cases hi
        cases m with
        | d x => exact o4
        | lst xs => exact o4
        | st s => cases dm
        | scr ns => cases dm
        | dic kvs => cases dm
        | lk kvs => cases dm
        | dp x => cases dm
        | obj x fs => cases dm
      · rw [if_neg hx] at e; cases e
end
end
section
variable {TBL : TabL}
def runD (n : Nat) (gg : Except Exc D → SF Exc) : Except Exc D → Option (MO St2) := fun q => ((gg q (startD n [.st mark])).bind fun o => (outM o).map (·.1)).bind toM2
structure FnD [TabL] (P : Program) (w : World) (K : PySem.W.Frag) (mg : Str → Option Value) (base : Heap) (j : Nat) (g : Addr) (fd : FuncData) (a : Str) (F : Except Exc D → Option (MO St2)) : Prop where
  run : ∀ (A : Around) (outer : List Env) (s : Shared) (G H : Hp) (args : Args) (f : Addr) (q : Except Exc D) (m : MO St2) (Q : VK), Room (j + 1) A → A.guards = some [] → Env0 P w K mg base A outer s H → BindsTo s fd args [(a, .ref f)] → Sub G H → Deed P w K mg base j outer f s G H q → F q = some m →
    (∀ v G' H' fr, Step G H (fun _ => False) G' H' fr → OwnAt K R2i G' H' v m fr → (∀ b, fr b → G' b = none) → Q v H') → codeAny (model P w) A (.call (.ref g) args) (CR CX0 outer P w H s Q E0) s
theorem fn_D {P : Program} {w : World} {K : PySem.W.Frag} {mg : Str → Option Value} {base : Heap} {j : Nat} {g : Addr} {fd : FuncData} {a x qual : Str} {st : Stmt} {N : List Str} {gg : Except Exc D → SF Exc} (Fn : Fun K x qual st g fd) (sc : FnScope N [a] (defScope st))
    (hbody : ∀ (q : Except Exc D) (f : Addr) (G : Hp) (cdv : Value) (A : Around) (outer : List Env) (s : Shared) (H : Hp), Room j (A.deeper (envOfC qual (defScope st) s.heap.objs.size g cdv)) → (A.deeper (envOfC qual (defScope st) s.heap.objs.size g cdv)).guards = some [] → Deed P w K mg base j outer f s G H q →
      PSs (cxOf CX0 P w K mg base N qual (defScope st) g cdv A outer s H E0).nox (defBody st) (tS K (R0d G f) [] (gg q))) : FnD P w K mg base j g fd a (runD N.length gg) := by
  refine ⟨fun A outer s G H args f q m Q hr hgd e0 hb sb hD e k => ?_⟩
  obtain ⟨oc, od, kV, doc, pm, an, cdv, ct, osl, rfl, lk, hcd⟩ := Fn.ex
  refine LamX.run_ofS (N := N) (ps := [a]) (us := [.ref f]) (vs := [.ref f]) lk hcd sc hr e0 hb (.cons rfl .nil) rfl fun hr' => ?_
  have hgd2 : (A.deeper (envOfC qual (defScope st) s.heap.objs.size g cdv)).guards = some [] := by first | exact hgd | (simpa [Around.deeper] using hgd)
  refine ⟨_, (hbody q f G cdv A outer s H hr' hgd2 hD).nox, ?_⟩
  unfold runD at e
  cases eg : gg q (startD N.length [.st mark]) with
  | none => rw [eg] at e; cases e
  | some o =>
    rw [eg, Option.bind_some] at e
    have rel : OwnAt K (R0d G f) G H (.ref f) (.st mark) (fun _ => False) := ⟨rfl, SameX.refl G, fun _ z => z⟩
    have r := rs_start (N := N) sb (argOk_first (R := R0d G f) (H := H) (v0 := .ref f) (m0 := .st mark) (fp := fun _ => False) rel (fun _ z => z.elim) (.nil))
    refine ⟨G, _, _, o, r, eg, ?_⟩
    have nf : ∀ {G' H' : Hp} {P' : Addr → Prop}, Step G H (fun a => ∃ (i : Nat), i = 0 ∧ False) G' H' P' → Step G H (fun _ => False) G' H' P' := fun s => ⟨fun a _ o e => s.frame a (fun ⟨_, _, z⟩ => z) o e, s.keep, s.sub, fun b hb => by
      rcases s.new0 b hb with z | z | ⟨_, _, z⟩
      · exact .inl z
      · exact .inr (.inl z)
      · exact z.elim, fun b hb => (s.newf b hb).elim (fun ⟨_, _, z⟩ => z.elim) .inr⟩
    cases o with
    | nx ds' =>
      cases e
      exact fun σ' G' H' F' r' s' _ => k .non G' H' (fun _ => False) ((nf s').weaken fun _ z => z.elim) ⟨.non, fun _ z => z⟩ fun _ z => z.elim
    | rt m' ds' =>
      have e : toM2 m' = some m := e
      intro v σ' G' H' F' fr r' s' o' h1 h2 _
      refine k v G' H' fr ((nf s').weaken fun _ z => .inr z) ?_ h2
      cases m' with
      | d x => cases e; exact o'
      | lst xs => cases e; exact o'
      | st s => cases e
      | scr ns => cases e
      | dic kvs => cases e
      | lk kvs => cases e
      | dp x => cases e
      | obj x fs => cases e
    | bk ds' => cases e
    | ct ds' => cases e
structure ClD [TabL] (P : Program) (w : World) (K : PySem.W.Frag) (mg : Str → Option Value) (base : Heap) (j : Nat) (x : Str) (F : Except Exc D → Option (MO St2)) : Prop where
  ex : ∃ (g : Addr) (fd : FuncData) (a : Str), FnD P w K mg base j g fd a F ∧ Binds K fd [a] [] ∧ PySem.W.keepIn K (.ref g) = true ∧ mg x = some (.ref g)
section
variable {X : Cx} {pins : List (Addr × Obj)} {σ : L2.St} {H : Hp} {s : Shared}
open LamX in
theorem lam_made {T : List (Addr × Str)} {c P : Addr} {params : Arguments} {body : Expr} {scope : Scope} {pos : Pos} {E : Value → Shared → Prop} {Q : Value → Shared → Prop} (I : Inv X pins σ H s) (TB : TabB X.base X.mg c P) (hcode : X.env.code = .ref c)
    (hm : (P, X.env.qual ++ "<lambda>") ∈ T) (hu : ∀ p ∈ T, p.1 = P → p.2 = X.env.qual ++ "<lambda>") (hT : Tabs T H) (hdef : defaultsOf params X.env = ([], [])) (hfree : ∀ y ∈ scope.names, y.2 = .free → ∃ c, X.env.cells.lookup y.1 = some c)
    (h : ∀ (f c' : Addr) (pm ctv : Value) (H1 : Hp) (s' : Shared), Inv X pins σ H1 s' → (∀ b o, H b = some o → Kp o (H1 b)) → Tabs T H1 →
      s'.heap.get? f = some (PySem.W.kla_obj "<lambda>" (X.env.qual ++ "<lambda>") params body scope (cloFrom X.env.cells scope.names []) pm c' ctv) → H1 f = none → f ∉ frs X.stack → H1 c' = some (CodeO c' (X.env.qual ++ "<lambda>")) → (∀ b, H b = none → H1 b = none ∨ b = c') → Q (.ref f) s') :
    wpAny (model X.prog X.w) X.A (eval (.Lambda params body scope pos) X.env) Q E s := by
  obtain ⟨ps, hP, ht, ha⟩ := hT _ hm
  refine PySem.W.kla_eval hdef ?_
  have bP : s.heap.BuiltinsAt X.mg P := TB.bm.keeps I.bk
  have hP' : s.heap.get? P = some { cls := .none, data := .fields ps } := I.hok P _ hP
  have nofr : ∀ f, s.heap.objs.size ≤ f → f ∉ frs X.stack := fun f hf z => by
    rcases List.mem_cons.mp (I.stkSub _ z) with e | e
    · have h1 := I.lt
      rw [← e] at h1
      exact Nat.lt_irrefl _ (Nat.lt_of_lt_of_le h1 hf)
    · exact I.nofs hf e
  cases hc : codeAmong pos ps.toList with
  | some cv =>
    obtain ⟨c', rfl, hco⟩ := ha pos cv hc
    refine PySem.W.kla_makeFunctionHit (mg := X.mg) (c := c) (P := P) (ps := ps) (closure_ok hfree) I.ok.glob (I.mod.glob.keeps I.bk) hcode (TB.code.keeps I.bk) hP' ht hc bP fun ctv h' tk hx hsz => ?_
    exact h h'.objs.size c' _ ctv H _ (I.kept (t' := tk) fun b o e => Heap.get?_push_of_some _ (hx b o e)) (fun b o e => .inl e) hT (Heap.get?_push_size _ rfl) (I.hok.fresh hsz) (nofr _ hsz) hco fun b e => .inl e
  | none =>
    refine PySem.W.kla_makeFunction (mg := X.mg) (c := c) (P := P) (ps := ps) (closure_ok hfree) I.ok.glob (I.mod.glob.keeps I.bk) hcode (TB.code.keeps I.bk) hP' ht hc TB.gP bP fun c' ctv h' tk hx hge hlt hrec htb => ?_
    obtain ⟨c2, oc, vs, t, e2, hoc, hd, hv⟩ := hrec
    cases e2
    have nC : H c' = none := I.hok.fresh hge
    have hsz : s.heap.objs.size ≤ h'.objs.size := Nat.le_trans hge (Nat.le_of_lt hlt)
    have I1 := inv_table (t' := tk) (more := #[rawInt pos.line, rawInt pos.col, .ref c']) (h' := h'.push (PySem.W.kla_obj "<lambda>" (X.env.qual ++ "<lambda>") params body scope (cloFrom X.env.cells scope.names []) ((X.mg "__name__").getD .none) c' ctv)) I hP
      (fun b o hb e => Heap.get?_push_of_some _ (hx b o hb e)) (Heap.get?_push_of_some _ htb) hge ⟨oc, vs, t, Heap.get?_push_of_some _ hoc, hd, hv⟩
    have stay : ∀ b o, H b = some o → (∀ ps, o ≠ .tbl ps) → upd (upd H P (.tbl (ps ++ #[rawInt pos.line, rawInt pos.col, .ref c']))) c' (CodeO c' (X.env.qual ++ "<lambda>")) b = some o := fun b o e n => by
      rw [upd_ne (ne_of_none e nC), upd_ne (fun z => n ps (Option.some.inj (e.symm.trans (by rw [z]; exact hP))))]
      exact e
    refine h h'.objs.size c' _ ctv _ _ I1 (fun b o e => ?_) (fun p hp => ?_) (Heap.get?_push_size _ rfl) ?_ (nofr _ hsz) upd_same fun b e => ?_
    · by_cases hb : b = P
      · subst hb
        rw [hP] at e
        cases e
        exact .inr ⟨ps, _, rfl, by rw [upd_ne (ne_of_none hP nC), upd_same]⟩
      · refine .inl ?_
        rw [upd_ne (ne_of_none e nC), upd_ne hb]
        exact e
    · by_cases hb : p.1 = P
      · rw [hu p hp hb, hb]
        refine ⟨_, by rw [upd_ne (ne_of_none hP nC), upd_same], by rw [Array.toList_append]; exact PySem.TriplesOk_snoc _ _ _ _ ht, fun p' cv hcv => ?_⟩
        rw [Array.toList_append] at hcv
        rcases among_app _ ht hcv with z | z
        · obtain ⟨c0, e1, e2⟩ := ha p' cv z
          exact ⟨c0, e1, stay _ _ e2 codeO_ne⟩
        · exact ⟨c', z, upd_same⟩
      · obtain ⟨ps', a1, a2, a3⟩ := hT p hp
        refine ⟨ps', by rw [upd_ne (ne_of_none a1 nC), upd_ne hb]; exact a1, a2, fun p' cv hcv => ?_⟩
        obtain ⟨c0, e1, e2⟩ := a3 p' cv hcv
        exact ⟨c0, e1, stay _ _ e2 codeO_ne⟩
    · rw [upd_ne (Nat.ne_of_gt hlt), upd_ne (Nat.ne_of_gt (Nat.lt_of_lt_of_le (Heap.lt_size hP') hsz))]
      exact I.hok.fresh hsz
    · by_cases hb : b = c'
      · exact .inr hb
      · refine .inl ?_
        rw [upd_ne hb, upd_ne (fun z => by rw [z, hP] at e; cases e)]
        exact e
end
end
section
variable {TBL : TabL}
section
variable {X : Cx} {pins : List (Addr × Obj)} {σ : L2.St} {H : Hp} {s : Shared}
theorem codeO_nx {c : Addr} {q : Str} : ∀ od xs, LamX.CodeO c q ≠ .frz od (.dK xs) := by
  intro od xs z
  unfold LamX.CodeO at z
  cases z
theorem deed_of {G0 : Hp} {k : Nat} {f c' : Addr} {pm ctv : Value} {params : Arguments} {body : Expr} {scope : Scope} {q : Except Exc D} {dd dd' : DS St2} {fE : XE St2} (I : Inv X pins σ H s) (L : LamX.LamS X.env.scope scope)
    (hf : s.heap.get? f = some (PySem.W.kla_obj "<lambda>" (X.env.qual ++ "<lambda>") params body scope (cloFrom X.env.cells scope.names []) pm c' ctv)) (hfn : H f = none) (hfr : f ∉ frs X.stack) (hco : G0 c' = some (LamX.CodeO c' (X.env.qual ++ "<lambda>")))
    (hbind : bindArgs (PySem.W.kla_fn "<lambda>" (X.env.qual ++ "<lambda>") params body scope (cloFrom X.env.cells scope.names []) pm (.ref c') ctv) ⟨[], []⟩ = pure [])
    (rs : ∀ G' H', Sub G' H' → SameX G0 G' → RS X.K R2i dd σ G' H' (fun _ _ => False)) (e : fE dd = some (q, dd'))
    (hbody : ∀ (A : Around) (outer : List Env) (s : Shared) (H : Hp) (E : XK), Room k (A.deeper (LamX.lamEnv X scope s.heap.objs.size f c')) → (A.deeper (LamX.lamEnv X scope s.heap.objs.size f c')).guards = some [] → Takes (LamX.lamCx X A outer s H E scope f c') (fun cls d _ H => E cls d H) →
      PE (LamX.lamCx X A outer s H E scope f c') body (tXE X.K R2i X.mg (fun cls d _ H => E cls d H) fE)) :
    Deed X.prog X.w X.K X.mg X.base (k + 1) X.stack f s G0 H q := by
  have there : ∀ (s1 : Shared) (H1 : Hp), L2.Un (frs X.stack) [] H H1 s.heap s1.heap → s1.heap.get? f = some (PySem.W.kla_obj "<lambda>" (X.env.qual ++ "<lambda>") params body scope (cloFrom X.env.cells scope.names []) pm c' ctv) :=
    fun s1 H1 un => un.keep f _ hf hfn hfr (by simp)
  refine ⟨fun s1 H1 un => ⟨_, _, _, _, there s1 H1 un⟩, fun A1 outer1 s1 G1 H1 Q E hr hgd e0 un sb sx ho => ?_⟩
  have hc : H1 c' = some (LamX.CodeO c' (X.env.qual ++ "<lambda>")) := sb.same _ _ (sx _ _ hco codeO_nx)
  obtain ⟨⟨oc, vs, t, hoc, hdc, hvc⟩, _, _⟩ := e0.hok c' _ hc
  have lim : s1.heap.NoLimit := e0.mod.nolimit.keeps fun b o q => (e0.bs b o q).1
  refine PySem.W.kla_callFunE hr.depth (there s1 H1 un) rfl L.co L.gen rfl ⟨c', oc, vs, t, rfl, hoc, hdc, hvc⟩ ?_
  rw [hbind]
  refine wpAny_pure (wpAny_newFunctionEnv (fun y hy => (L.own y hy).2) (fun y hy => absurd hy (by simp)) (fun h₁ hns hsb => ⟨lim.fresh _ hsb, ?_⟩) L.kind)
  show codeAny _ _ (.expr body (LamX.lamEnv X scope s1.heap.objs.size f c')) _ _
  have kp : ∀ b o, s1.heap.get? b = some o → h₁.get? b = some o := fun b o e => hsb.extBut b o (Nat.ne_of_lt (Heap.lt_size e)) (Heap.get?_push_of_some _ e)
  have J : Inv (LamX.lamCx X A1 outer1 s1 H1 E scope f c') [] σ H1 { s1 with heap := h₁, toks := s1.toks + ([] : List (Str × Value)).length } := LamX.lam_start2 I L e0 hr.hd un hns kp
  have hgd2 : (A1.deeper (LamX.lamEnv X scope s1.heap.objs.size f c')).guards = some [] := by first | exact hgd | (simpa [Around.deeper] using hgd)
  have tk : Takes (LamX.lamCx X A1 outer1 s1 H1 E scope f c') (fun cls d _ H => E cls d H) := takes_of (X := LamX.lamCx X A1 outer1 s1 H1 E scope f c') rfl rfl rfl rfl
  have ht : tXE X.K R2i X.mg (fun cls d _ H => E cls d H) fE σ H1 Q := by
    refine ⟨G1, fun _ _ => False, dd, q, dd', rs G1 H1 sb sx, e, ?_⟩
    have nf : ∀ {G' H' : Hp} {P' : Addr → Prop}, Step G1 H1 (fun a => ∃ (i : Nat), False) G' H' P' → Step G1 H1 (fun _ => False) G' H' (fun _ => False) := fun s => ⟨fun a _ o e => s.frame a (fun ⟨_, z⟩ => z) o e, s.keep, s.sub, fun b hb => by
      rcases s.new0 b hb with z | z | ⟨_, z⟩
      · exact .inl z
      · exact .inr (.inl z)
      · exact z.elim, fun b hb => hb.elim⟩
    cases q with
    | ok d => exact fun v G' H' F' r' s' dv => ho v G' H' (nf s') dv
    | error x1 => exact fun cls dd G' H' F' xi r' s' => ho cls dd G' H' xi (nf s')
  refine PySem.W.kla_codeExpr (wpAny_mono ((hbody A1 outer1 s1 H1 E (hr.deeper _) hgd2 tk).run [] _ _ H1 Q J ht) (fun v s' hq => ?_) fun e s' hq => hq)
  obtain ⟨w', H', J', rv, q'⟩ := hq
  exact ⟨w', H', J'.os, J'.bare, J'.base, J'.hok, rv, q'⟩
def pureD {S S' : Type} (ds : DS S) : DS S' := ds.map fun o => match o with
  | some (.d x) => some (.d x)
  | some (.lst xs) => some (.d (.list xs))
  | _ => none
theorem pureD_some {S S' : Type} {ds : DS S} {i : Nat} {m : MO S'} (e : (pureD ds : DS S')[i]? = some (some m)) : (∃ x, m = .d x ∧ ds[i]? = some (some (.d x))) ∨ ∃ xs, m = .d (.list xs) ∧ ds[i]? = some (some (.lst xs)) := by
  unfold pureD at e
  rw [List.getElem?_map] at e
  cases h : ds[i]? with
  | none => rw [h] at e; cases e
  | some o =>
    rw [h] at e
    cases o with
    | none => cases e
    | some m2 =>
      cases m2 with
      | d x => cases e; exact .inl ⟨x, rfl, rfl⟩
      | lst xs => cases e; exact .inr ⟨xs, rfl, rfl⟩
      | st _ => cases e
      | scr _ => cases e
      | dic _ => cases e
      | lk _ => cases e
      | dp _ => cases e
      | obj _ _ => cases e
theorem View.pureD {S S' : Type} {K : PySem.W.Frag} {R' : StI S'} {σ : L2.St} {G G' H' : Hp} {ds : DS S} (r : View K G σ ds) (sb : Sub G' H') (sx : SameX G G') : RS K R' (pureD ds) σ G' H' (fun _ _ => False) := by
  refine ⟨sb, by unfold DL.pureD; rw [List.length_map]; exact r.len, fun i m e => ?_, fun _ _ _ z => z, fun _ _ _ z => z.elim, fun _ _ z => z.elim⟩
  rcases pureD_some e with ⟨x, rfl, e2⟩ | ⟨xs, rfl, e2⟩ <;> obtain ⟨v, h1, h2⟩ := r.has i _ e2
  · exact ⟨v, h1, Den.off sx h2, fun _ z => z⟩
  · exact ⟨v, h1, Den.off sx h2, fun _ z => z⟩
def toDL : MO St2 → Option D
  | .d x => some x
  | .lst xs => some (.list xs)
  | _ => none
def gDeed {S : Type} (fE : XE St2) (F : Except Exc D → Option (MO St2)) : DS S → Option D := fun ds => (fE (pureD ds)).bind fun q => (F q.1).bind toDL
theorem gone_c {G H H1 G2 H2 : Hp} {fr : Addr → Prop} {c' : Addr} {q : Str} (hs : Sub G H) (k1 : ∀ b o, H b = some o → Kp o (H1 b)) (hn : ∀ b, H b = none → H1 b = none ∨ b = c') (hG : G c' = none) (s2 : Step (upd G c' (LamX.CodeO c' q)) H1 (fun _ => False) G2 H2 fr) :
    Step G H (fun _ => False) (del G2 c') H2 fr ∧ SameE G2 (del G2 c') := by
  have e2 : G2 c' = some (LamX.CodeO c' q) := s2.keep _ _ upd_same
  have back : ∀ b, H1 b = none → H b = none := fun b z => by
    cases q : H b with
    | none => rfl
    | some o => exact absurd z (k1 b o q).ne
  refine ⟨⟨fun a _ o e => (k1 a o e).trans fun u e1 => s2.frame a (fun z => z) u e1, fun b o e => ?_, ⟨fun b o e => ?_, s2.sub.tab, fun b o e => ?_⟩, fun b h => ?_, fun b h => ?_⟩, fun b o e n => ?_⟩
  · have ne : b ≠ c' := fun z => by rw [z, hG] at e; cases e
    rw [del_ne ne]
    exact s2.keep _ _ (by rw [upd_ne ne]; exact e)
  · by_cases hb : b = c'
    · rw [hb, del_same] at e; cases e
    · rw [del_ne hb] at e; exact s2.sub.same _ _ e
  · by_cases hb : b = c'
    · rw [hb, del_same] at e; cases e
    · rw [del_ne hb] at e; exact s2.sub.ng _ _ e
  · by_cases hb : b = c'
    · rw [hb, del_same] at h; exact absurd rfl h
    · rw [del_ne hb] at h
      rcases s2.new0 b h with z | z | z
      · rw [upd_ne hb] at z; exact .inl z
      · exact .inr (.inl (back b z))
      · exact z.elim
  · exact (s2.newf b h).elim .inl fun z => .inr (back b z)
  · have ne : b ≠ c' := fun z => by
      rw [z, e2] at e
      cases e
      exact n _ rfl
    rw [del_ne ne]
    exact e
end
section
variable {X : Cx} {S : Type} {k j : Nat} {x : Str} {c P : Addr} {params : Arguments} {body : Expr} {scope : Scope} {p lpos pos : Pos} {fE : XE St2} {F : Except Exc D → Option (MO St2)}
theorem ep_deed (cd : ClD X.prog X.w X.K X.mg X.base (j + 1) x F) (hg : Gl X x) (TB : LamX.TabB X.base X.mg c P) (hcode : X.env.code = .ref c) (hmT : (P, X.env.qual ++ "<lambda>") ∈ TabL.T) (hu : ∀ p ∈ TabL.T, p.1 = P → p.2 = X.env.qual ++ "<lambda>")
    (hjk : j + 2 ≤ k) (hr : Room k X.A) (hgd : X.A.guards = some []) (L : LamX.LamS X.env.scope scope) (hdef : defaultsOf params X.env = ([], []))
    (hbind : ∀ (q : Str) (cl : List (Str × Addr)) (pm cv ctv : Value), bindArgs (PySem.W.kla_fn "<lambda>" q params body scope cl pm cv ctv) ⟨[], []⟩ = pure [])
    (hbody : ∀ (A : Around) (outer : List Env) (s : Shared) (H : Hp) (E : XK) (f c' : Addr), Room j (A.deeper (LamX.lamEnv X scope s.heap.objs.size f c')) → (A.deeper (LamX.lamEnv X scope s.heap.objs.size f c')).guards = some [] → Takes (LamX.lamCx X A outer s H E scope f c') (fun cls d _ H => E cls d H) →
      PE (LamX.lamCx X A outer s H E scope f c') body (tXE X.K R2i X.mg (fun cls d _ H => E cls d H) fE))
    (hdb : (x == ("__debug__" : Str)) = false := by decide) :
    PE X (.Call (.Name x p) [.Lambda params body scope lpos] [] pos) (tP (S := S) X.K (gDeed fE F)) := by
  obtain ⟨g, fd, a, Fn, hb, hk, hm⟩ := cd.ex
  refine ⟨fun pins s σ H Q I h => ?_⟩
  obtain ⟨G, ds, d, sb, vw, eg, kk⟩ := h
  unfold gDeed at eg
  cases eE : fE (pureD ds) with
  | none => rw [eE] at eg; cases eg
  | some q =>
    rw [eE, Option.bind_some] at eg
    cases eF : F q.1 with
    | none => rw [eF] at eg; cases eg
    | some m =>
      rw [eF, Option.bind_some] at eg
      refine wpAny_Call_Name_kw (ld_glob I hg hm ?_ hdb)
      refine PySem.W.callWith_K (h₀ := X.base) I.ok.mod.kin hk ?_ (by rfl) (by rfl)
      show wpAny _ _ (spliced ((false, eval (.Lambda params body scope lpos) X.env) :: backTo pos (starEach [] X.env))) _ _ s
      refine PySem.Calls.spliced_cons (lam_made I TB hcode hmT hu sb.tab hdef (L.has I.ok) fun f c' pm' ctv H1 s' I1 k1 T1 hf hfn hfr hco hn => ?_)
      refine PySem.Calls.spliced_nil ⟨I1.kIn, ?_⟩
      have sb1 : Sub G H1 := ⟨fun b o e => (k1 b o (sb.same b o e)).elim (fun z => z) fun ⟨ps, _, z, _⟩ => absurd z (sb.ng b o e ps), T1, sb.ng⟩
      -- the call, over a heap in which the code object is known
      have go : ∀ G1 : Hp, Sub G1 H1 → Same G G1 → G1 c' = some (LamX.CodeO c' (X.env.qual ++ "<lambda>")) → (∀ v G2 H2 fr, Step G1 H1 (fun _ => False) G2 H2 fr → OwnAt X.K R2i G2 H2 v m fr → (∀ b, fr b → G2 b = none) → Q v H2) →
          wpAny (model X.prog X.w) X.A (call (.ref g) [.ref f]) (EP X pins σ Q) X.xe s' := fun G1 s1 gg hc1 q1 => by
        have hD : Deed X.prog X.w X.K X.mg X.base (j + 1) X.stack f s' G1 H1 q.1 := deed_of (k := j) I1 L hf hfn hfr hc1 (hbind _ _ _ _ _) (fun G' H' sg sx => vw.pureD sg ((SameX.of gg).trans sx)) (q := q.1) (dd' := q.2) eE (fun A outer s H E r1 r2 r3 => hbody A outer s H E f c' r1 r2 r3)
        refine wpAny_call (codeAny_mono (Fn.run X.A X.stack s' G1 H1 ⟨[.ref f], []⟩ f q.1 m Q (hr.mono hjk) hgd I1.env0 (hb s' [.ref f] I1.kIn rfl) s1 hD eF q1) fun r s2 hq => ?_)
        cases r with
        | error e => exact (show False from hq).elim
        | ok fl =>
          cases fl with
          | ret u => exact I1.after hq
          | next => exact False.elim hq
          | brk => exact False.elim hq
          | cont => exact False.elim hq
      -- what it tells, as data
      have fin : ∀ {v : V} {G3 H2 : Hp} {fr : Addr → Prop}, Step G H (fun _ => False) G3 H2 fr → OwnAt X.K R2i G3 H2 v m fr → (∀ b, fr b → G3 b = none) → Q v H2 := fun {v G3 H2 fr} s3 o3 n3 => by
        cases m with
        | d x => cases eg; exact kk v G3 H2 (step_gr s3) o3.1
        | lst xs =>
          cases eg
          obtain ⟨q0, vs2, rfl, hq, z, dd, fq⟩ := o3
          have hG : G3 q0 = none := n3 q0 ((fq q0).mpr rfl)
          have hH : H q0 = none := (s3.newf q0 ((fq q0).mpr rfl)).elim False.elim fun z => z
          exact kk _ (upd G3 q0 (.lst vs2)) H2 ((step_gr s3).freeze hG hH hq) (.lst upd_same z (dd.mono fun b u e => by rw [upd_ne (ne_of_none e hG)]; exact e))
        | st s => cases eg
        | scr ns => cases eg
        | dic kvs => cases eg
        | lk kvs => cases eg
        | dp x => cases eg
        | obj x fs => cases eg
      by_cases hG : G c' = none
      · have sG : Sub (upd G c' (LamX.CodeO c' (X.env.qual ++ "<lambda>"))) H1 := ⟨fun b o e => by
          by_cases hb : b = c'
          · rw [hb, upd_same] at e; cases e; rw [hb]; exact hco
          · rw [upd_ne hb] at e; exact sb1.same b o e, T1, fun b o e => by
          by_cases hb : b = c'
          · rw [hb, upd_same] at e; cases e; exact fun ps => LamX.codeO_ne ps
          · rw [upd_ne hb] at e; exact sb.ng b o e⟩
        refine go _ sG (fun b o e => by rw [upd_ne (ne_of_none e hG)]; exact e) upd_same fun v G2 H2 fr s2 o2 n2 => ?_
        obtain ⟨s3, se⟩ := gone_c sb k1 hn hG s2
        refine fin s3 ?_ fun b hb => ?_
        · cases m with
          | d x => exact ⟨o2.1.offE se, o2.2⟩
          | lst xs =>
            obtain ⟨q0, vs2, e0, hq, z, dd, fq⟩ := o2
            exact ⟨q0, vs2, e0, hq, z, DenAll.offE se dd, fq⟩
          | st s => cases eg
          | scr ns => cases eg
          | dic kvs => cases eg
          | lk kvs => cases eg
          | dp x => cases eg
          | obj x fs => cases eg
        · by_cases h : b = c'
          · rw [h, del_same]
          · rw [del_ne h]; exact n2 b hb
      · obtain ⟨o, ho⟩ := Option.ne_none_iff_exists'.mp hG
        have e1 := sb1.same _ _ ho
        rw [hco] at e1
        cases e1
        refine go G sb1 (Same.refl _) ho fun v G2 H2 fr s2 o2 n2 => fin ⟨fun a _ o e => (k1 a o e).trans fun u e1 => s2.frame a (fun z => z) u e1, s2.keep, s2.sub, fun b h => ?_, fun b h => ?_⟩ o2 n2
        · rcases s2.new0 b h with z | z | z
          · exact .inl z
          · exact .inr (.inl (by cases q : H b with | none => rfl | some o => exact absurd z (k1 b o q).ne))
          · exact z.elim
        · exact (s2.newf b h).elim .inl fun z => .inr (by cases q : H b with | none => rfl | some o => exact absurd z (k1 b o q).ne)
end
end
section
variable {TBL : TabL}
theorem fnG_ofc {P : Program} {w : World} {K : PySem.W.Frag} {mg : Str → Option Value} {base : Heap} {x qual : Str} {st : Stmt} {f : Addr} {fd : FuncData} {N ps : List Str} {k : Nat} {sp : Sp} (Fn : Fun K x qual st f fd) (sc : FnScope N ps (defScope st))
    (len : ∀ vs H Q E, sp vs H Q E → vs.length = ps.length)
    (hbody : ∀ (cdv : Value), fd.code = cdv → ∀ (A : Around) (outer : List Env) (s : Shared) (H : Hp) (vs : List V) (Q : VK) (E : XK), Room k (A.deeper (envOfC qual (defScope st) s.heap.objs.size f cdv)) → (A.deeper (envOfC qual (defScope st) s.heap.objs.size f cdv)).guards = some [] → sp vs H Q E →
      ∃ t, PSs (cxOf CX0 P w K mg base N qual (defScope st) f cdv A outer s H E).nox (defBody st) t ∧ t { nx := fun _ H' => Q .non H', rt := Q } (L2.start N vs) H) : FnG P w K mg base CX0 (k + 1) f fd ps sp := by
  refine ⟨len, fun A outer s H args us vs Q E hr hgd e0 hb r hsp => ?_⟩
  obtain ⟨oc, od, kV, doc, pm, an, cdv, ct, osl, rfl, lk, hcd⟩ := Fn.ex
  have inK : K.In s.heap := e0.mod.kin.keeps fun b o q => (e0.bs b o q).1
  have noLim : s.heap.NoLimit := e0.mod.nolimit.keeps fun b o q => (e0.bs b o q).1
  have kinds : ∀ y ∈ ps.zip us, (defScope st).names.lookup y.1 = some .local ∨ ((defScope st).names.lookup y.1 = some .cell ∧ ((cellsFrom (s.heap.objs.size + 1) (defScope st).names []).lookup y.1).isSome = true) := by
    rintro ⟨n, v⟩ hy
    exact (sc.par n (List.of_mem_zip hy).1).elim .inl fun q => .inr ⟨q, PySem.W.cellsFrom_some _ _ _ (.inl q)⟩
  refine codeAny_call_function hr.depth (inK _ _ lk) rfl sc.co sc.gen rfl (PySem.W.codeRec_of inK hcd) (hb _ _ _ _ (wpAny_newFunctionEnv_cells sc.kind kinds fun env he s1 hin => ?_))
  subst he
  refine ⟨noLim.keeps hin.toInCall.keep, codeAny_func ?_⟩
  obtain ⟨t, ht, hq⟩ := hbody cdv rfl A outer s H vs Q E (hr.deeper _) (by first | exact hgd | (simpa [Around.deeper] using hgd)) hsp
  have I0 : Inv (cxOf CX0 P w K mg base N qual (defScope st) f cdv A outer s H E) [] (L2.start N vs) H s1 := inv_start sc hr.hd e0 (len _ _ _ _ hsp) r hin
  have ends : ∀ {σ' : L2.St} {H' : Hp} {v : V} {u : Value} {s' : Shared}, Inv (cxOf CX0 P w K mg base N qual (defScope st) f cdv A outer s H E) [] σ' H' s' → RelV v u → Q v H' → CE outer P w H s Q u s' := fun J rv q => ⟨_, _, J.os, J.bare, J.base, J.hok, rv, q⟩
  refine wpAny_mono (ht.nox.run [] s1 (L2.start N vs) H _ I0 hq) (fun fl s' hs => ?_) fun _ _ z => z
  match fl, hs with
  | .ret u, ⟨v, σ', H', J, rv, q⟩ => exact ends J rv q
  | .next, ⟨σ', H', J, q⟩ => exact ends (v := V.non) (u := Value.none) J rfl q
  | .brk, ⟨_, _, _, q⟩ => exact q.elim
  | .cont, ⟨_, _, _, q⟩ => exact q.elim
section
variable {S : Type} {K : PySem.W.Frag} {R : StI S} {G H : Hp} {P : Program} {w : World} {mg : Str → Option Value} {base : Heap} {x qual : Str} {st : Stmt} {f : Addr} {fd : FuncData} {N ps : List Str} {k : Nat} {g : SF S}
abbrev BodyOkc [TabL] (P : Program) (w : World) (K : PySem.W.Frag) (mg : Str → Option Value) (base : Heap) (N : List Str) (qual : Str) (st : Stmt) (f : Addr) (fd : FuncData) (k : Nat) (R : StI S) (pn : List Nat) (g : SF S) : Prop :=
  ∀ (cdv : Value), fd.code = cdv → ∀ (A : Around) (outer : List Env) (s : Shared) (H : Hp) (E : XK), Room k (A.deeper (envOfC qual (defScope st) s.heap.objs.size f cdv)) → (A.deeper (envOfC qual (defScope st) s.heap.objs.size f cdv)).guards = some [] →
    PSs (cxOf CX0 P w K mg base N qual (defScope st) f cdv A outer s H E).nox (defBody st) (tS K R pn g)
theorem fn_Pc (Fn : Fun K x qual st f fd) (sc : FnScope N ps (defScope st)) (hbody : BodyOkc P w K mg base N qual st f fd k R [] g) : FnG P w K mg base CX0 (k + 1) f fd ps (spP K R ps.length (runP N.length g)) := by
  refine fnG_ofc Fn sc (fun vs H Q E h => h.1) fun cdv hcv A outer s H vs Q E hr hgd h => ⟨_, hbody cdv hcv A outer s H E hr hgd, ?_⟩
  obtain ⟨hl, G, as, m, sm, d, e, q⟩ := h
  unfold runP at e
  cases eg : g (startD N.length (as.map .d)) with
  | none => rw [eg] at e; cases e
  | some o =>
    rw [eg] at e
    have r := rs_start (N := N) sm (argOk_data (R := R) (H := H) d)
    refine ⟨G, _, _, o, r, eg, ?_⟩
    have nf : ∀ {G' H' : Hp} {P' : Addr → Prop}, Step G H (fun a => ∃ (i : Nat), False) G' H' P' → Step G H (fun _ => False) G' H' P' := fun s => ⟨fun a _ o e => s.frame a (fun ⟨_, z⟩ => z) o e, s.keep, s.sub, fun b hb => by
      rcases s.new0 b hb with z | z | ⟨_, z⟩
      · exact .inl z
      · exact .inr (.inl z)
      · exact z.elim, fun b hb => (s.newf b hb).elim (fun ⟨_, z⟩ => z.elim) .inr⟩
    cases o with
    | nx ds' =>
      cases e
      exact fun σ' G' H' F' r' s' _ => q .non G' H' (fun _ => False) ((nf s').weaken fun _ z => z.elim) ⟨.non, fun _ z => z⟩ fun _ z => z.elim
    | rt m' ds' =>
      cases e
      exact fun v σ' G' H' F' fr r' s' o' h1 h2 _ => q v G' H' fr ((nf s').weaken fun _ z => .inr z) o' h2
    | bk ds' => cases e
    | ct ds' => cases e
end
abbrev lamQ (q : Str) : Str := (q ++ ".<locals>.") ++ "<lambda>"
section
variable {X : Cx} {W : WX} {f : Addr} {G0 : Hp} {q : Except Exc D} {a y : Str} {j : Nat} {p1 p2 p3 p4 : Pos}
end
end
end DL
set_option Elab.async false
set_option linter.all false
set_option maxRecDepth 100000
set_option maxHeartbeats 8000000
namespace LAW
open PySem PySem.Spec PyProof.Rows L2 DL
section
variable {TBL : DL.TabL}
def top (i : Nat) : Stmt := PySem.Challenge.pw_pitchward_k56_lines_looked_at.main.body.getD i (.Pass ⟨0, 0, 0, 0⟩)
abbrev st_is_whole : Stmt := top 20
abbrev N_is_whole : List Str := ["thing", "least", "most"]
theorem sc_is_whole : FnScope N_is_whole ["thing", "least", "most"] (defScope st_is_whole) := ⟨rfl, rfl, rfl, by decide +kernel, rfl, by decide +kernel, by decide +kernel⟩
def g_is_whole : SF St2 :=
  (gRet (oX (xP (gAndV (gIsi "int" (gVar 0)) (gAndV (gNotV (gIsi "bool" (gVar 0))) (gChain leD leD (gVar 1) (gVar 0) (gVar 2)))))))
def F_is_whole : List D → Option (MO St2) := runP 3 g_is_whole
theorem ok_is_whole {P : Program} {w : World} {K : PySem.W.Frag} {mg : Str → Option Value} {base : Heap} {f : Addr} {fd : FuncData} (Fn : Fun K "is_whole" "is_whole" st_is_whole f fd) (m_bool : mg "bool" = none) (m_int : mg "int" = none) (m_isinstance : mg "isinstance" = none) :
    FnG P w K mg base CX0 1 f fd ["thing", "least", "most"] (spP K R2i 3 F_is_whole) := fn_P (k := 0) (N := N_is_whole) (g := g_is_whole) Fn sc_is_whole fun cdv A outer s H E hr hgd => by
  have nd : N_is_whole.Nodup := sc_is_whole.nd
  unfold g_is_whole
  exact (ss_one (ss_ret (eo_X (ex_P (ep_and (ep_isi (v2 := .none) (by rfl) m_isinstance (ep_var (pv 0)) (pe_bltn (by rfl) m_int (by decide +kernel) rfl)) (ep_and (ep_not (ep_isi (v2 := .none) (by rfl) m_isinstance (ep_var (pv 0)) (pe_bltn (by rfl) m_bool (by decide +kernel) rfl))) (ep_one (ep_chain o_le d_le o_le d_le (ep_var (pv 1)) (ep_var (pv 0)) (ep_var (pv 2))))))))))
abbrev st_need_rules : Stmt := top 23
abbrev N_need_rules : List Str := ["thing", "one"]
theorem sc_need_rules : FnScope N_need_rules ["thing"] (defScope st_need_rules) := ⟨rfl, rfl, rfl, by decide +kernel, rfl, by decide +kernel, by decide +kernel⟩
def g_need_rules : SFX St2 :=
  (gSeqX (gIfX (xtP (gOr (gNot (gTr (gIsi "tuple" (gVar 0)))) (gOr (gB (gOp neD (gCall (gCons (gVar 0) gNil) lenD) (gC (.int 4)))) (gNot (gTr (gCall (gCons (gL (gLc (gSrc (gVar 0)) [1] (asgN 1) gYes (gCallP 3 F_is_whole (gCons (gVar 1) (gCons (gC (.int 0)) (gCons (gC (.int 30)) gNil)))))) gNil) allD))))))
  (gRaise ⟨"BadRules", none⟩)
  gNextX)
  (gIfX (xtP (gOr (gNot (gB (gChain leD leD (gC (.int 1)) (gOp ixD (gVar 0) (gC (.int 0))) (gC (.int 20))))) (gOr (gB (gOp ltD (gOp ixD (gVar 0) (gC (.int 1))) (gOp ixD (gVar 0) (gC (.int 0))))) (gOr (gNot (gB (gChain leD leD (gC (.int 1)) (gOp ixD (gVar 0) (gC (.int 2))) (gC (.int 10))))) (gB (gOp gtD (gOp ixD (gVar 0) (gC (.int 3))) (gC (.int 20))))))))
  (gRaise ⟨"BadRules", none⟩)
  gNextX))
def FX_need_rules : List D → Option (Except Exc (MO St2)) := runPX 2 g_need_rules
def F_need_rules : List D → Option (MO St2) := fun as => okX (FX_need_rules as)
theorem ok_need_rules {P : Program} {w : World} {K : PySem.W.Frag} {mg : Str → Option Value} {base : Heap} {f : Addr} {fd : FuncData} (Fn : Fun K "need_rules" "need_rules" st_need_rules f fd) (c_is_whole : Cl P w K mg base 1 "is_whole" (spP K R2i 3 F_is_whole)) (m_all : mg "all" = none) (m_isinstance : mg "isinstance" = none) (m_len : mg "len" = none) (m_tuple : mg "tuple" = none) (g_MOST_OF : ∃ t, mg "MOST_OF" = some (.int 30 t)) (e_BadRules : ExcT K mg "BadRules") :
    FnG P w K mg base (CX P w) 2 f fd ["thing"] (spPX K R2i mg 1 FX_need_rules) := fn_PX (k := 1) (N := N_need_rules) (g := g_need_rules) Fn sc_need_rules fun cdv A outer s H E hr hgd tk => by
  have nd : N_need_rules.Nodup := sc_need_rules.nd
  unfold g_need_rules
  exact (sx_seq (sx_if (xt_P (PW.pt (tw_or (tp_not (tp_tr (ep_isi (v2 := .none) (by rfl) m_isinstance (ep_var (pv 0)) (pe_bltn (by rfl) m_tuple (by decide +kernel) rfl)))) (tw_or (tp_cmp (o_ne (room_u hr (by decide))) d_ne (ep_cb call_len d_len (by rfl) m_len (by decide +kernel) (ap_cons (ep_var (pv 0)) ap_nil)) ep_int rfl) (tw_or1 (tp_not (tp_tr (ep_cb (cr_all rfl) d_all (by rfl) m_all (by decide +kernel) (ap_cons (ep_f (ef_lc (own := [("one", 1)]) tgd_name (own_name (by decide)) rfl nd (pi_any (ep_var (pv 0))) (blkOk_by (N := N_need_rules) (sc := defScope st_need_rules) (by decide +kernel)) (fun _ _ _ _ _ => (pg_name (i := 1) nd rfl (Or.inl rfl))) (fun _ _ _ _ _ => pts_yes) (fun _ _ _ _ _ => (cp_call c_is_whole (by decide) hr hgd (by rfl) (ap_cons (ep_var (pv 1)) (ap_cons ep_int (ap_cons (ep_globI (by rfl) g_MOST_OF) ap_nil))))))) ap_nil)))))))))
  (sx_one (sx_raise rfl tk e_BadRules (by rfl)))
  sx_nil)
  (sx_one (sx_if (xt_P (PW.pt (tw_or (tp_not (tp_chain o_le d_le o_le d_le ep_int (ep_ix ix_seq d_ix (ep_var (pv 0)) ep_int (fun _ _ => rfl)) ep_int)) (tw_or (tp_cmp o_lt d_lt (ep_ix ix_seq d_ix (ep_var (pv 0)) ep_int (fun _ _ => rfl)) (ep_ix ix_seq d_ix (ep_var (pv 0)) ep_int (fun _ _ => rfl)) rfl) (tw_or (tp_not (tp_chain o_le d_le o_le d_le ep_int (ep_ix ix_seq d_ix (ep_var (pv 0)) ep_int (fun _ _ => rfl)) ep_int)) (tw_or1 (tp_cmp o_gt d_gt (ep_ix ix_seq d_ix (ep_var (pv 0)) ep_int (fun _ _ => rfl)) ep_int rfl)))))))
  (sx_one (sx_raise rfl tk e_BadRules (by rfl)))
  sx_nil)))
abbrev st_is_pair : Stmt := top 29
abbrev N_is_pair : List Str := ["thing"]
theorem sc_is_pair : FnScope N_is_pair ["thing"] (defScope st_is_pair) := ⟨rfl, rfl, rfl, by decide +kernel, rfl, by decide +kernel, by decide +kernel⟩
def g_is_pair : SF St2 :=
  (gSeq (gIfS (xtP (gOr (gNot (gTr (gIsi "tuple" (gVar 0)))) (gOr (gB (gOp neD (gCall (gCons (gVar 0) gNil) lenD) (gC (.int 2)))) (gNot (gTr (gCallP 3 F_is_whole (gCons (gOp ixD (gVar 0) (gC (.int 0))) (gCons (gC (.int 0)) (gCons (gC (.int 9999)) gNil)))))))))
  (gRet (oX (xP (gC (.bool false)))))
  gNext)
  (gRet (oX (xP (gAndV (gIsi "str" (gOp ixD (gVar 0) (gC (.int 1)))) (gOp inD (gOp ixD (gVar 0) (gC (.int 1))) (gC (.tuple ((["came", "told", "missed", "given", "struck"] : List Str).map .str)))))))))
def F_is_pair : List D → Option (MO St2) := runP 1 g_is_pair
theorem ok_is_pair {P : Program} {w : World} {K : PySem.W.Frag} {mg : Str → Option Value} {base : Heap} {f : Addr} {fd : FuncData} (Fn : Fun K "is_pair" "is_pair" st_is_pair f fd) (c_is_whole : Cl P w K mg base 1 "is_whole" (spP K R2i 3 F_is_whole)) (m_isinstance : mg "isinstance" = none) (m_len : mg "len" = none) (m_str : mg "str" = none) (m_tuple : mg "tuple" = none) (g_MOST_DAY : ∃ t, mg "MOST_DAY" = some (.int 9999 t)) (t_LINE_WORDS : TopTup K mg "LINE_WORDS" ["came", "told", "missed", "given", "struck"]) :
    FnG P w K mg base CX0 2 f fd ["thing"] (spP K R2i 1 F_is_pair) := fn_P (k := 1) (N := N_is_pair) (g := g_is_pair) Fn sc_is_pair fun cdv A outer s H E hr hgd => by
  have nd : N_is_pair.Nodup := sc_is_pair.nd
  unfold g_is_pair
  exact (ss_seq (ss_if (xt_P (PW.pt (tw_or (tp_not (tp_tr (ep_isi (v2 := .none) (by rfl) m_isinstance (ep_var (pv 0)) (pe_bltn (by rfl) m_tuple (by decide +kernel) rfl)))) (tw_or (tp_cmp (o_ne (room_u hr (by decide))) d_ne (ep_cb call_len d_len (by rfl) m_len (by decide +kernel) (ap_cons (ep_var (pv 0)) ap_nil)) ep_int rfl) (tw_or1 (tp_not (tp_tr (cp_call c_is_whole (by decide) hr hgd (by rfl) (ap_cons (ep_ix ix_seq d_ix (ep_var (pv 0)) ep_int (fun _ _ => rfl)) (ap_cons ep_int (ap_cons (ep_globI (by rfl) g_MOST_DAY) ap_nil)))))))))))
  (ss_one (ss_ret (eo_X (ex_P ep_bl))))
  ss_nil)
  (ss_one (ss_ret (eo_X (ex_P (ep_and (ep_isi (v2 := .none) (by rfl) m_isinstance (ep_ix ix_seq d_ix (ep_var (pv 0)) ep_int (fun _ _ => rfl)) (pe_bltn (by rfl) m_str (by decide +kernel) rfl)) (ep_one (ep_cmp (o_in (room_u hr (by decide))) d_in (ep_ix ix_seq d_ix (ep_var (pv 0)) ep_int (fun _ _ => rfl)) (ep_globT (by rfl) t_LINE_WORDS (by decide +kernel) (by decide)) rfl))))))))
abbrev st_may_follow : Stmt := top 30
abbrev N_may_follow : List Str := ["one", "other"]
theorem sc_may_follow : FnScope N_may_follow ["one", "other"] (defScope st_may_follow) := ⟨rfl, rfl, rfl, by decide +kernel, rfl, by decide +kernel, by decide +kernel⟩
def g_may_follow : SF St2 :=
  (gSeq (gIfS (xtP (gOr (gB (gOp eqD (gOp ixD (gVar 0) (gC (.int 1))) (gC (.str "struck")))) (gB (gOp ltD (gOp ixD (gVar 1) (gC (.int 0))) (gOp ixD (gVar 0) (gC (.int 0)))))))
  (gRet (oX (xP (gC (.bool false)))))
  gNext)
  (gRet (oX (xP (gOrV (gOp gtD (gOp ixD (gVar 1) (gC (.int 0))) (gOp ixD (gVar 0) (gC (.int 0)))) (gAndV (gOp eqD (gOp ixD (gVar 0) (gC (.int 1))) (gC (.str "given"))) (gOp neD (gOp ixD (gVar 1) (gC (.int 1))) (gC (.str "given")))))))))
def F_may_follow : List D → Option (MO St2) := runP 2 g_may_follow
theorem ok_may_follow {P : Program} {w : World} {K : PySem.W.Frag} {mg : Str → Option Value} {base : Heap} {f : Addr} {fd : FuncData} (Fn : Fun K "may_follow" "may_follow" st_may_follow f fd) :
    FnG P w K mg base CX0 1 f fd ["one", "other"] (spP K R2i 2 F_may_follow) := fn_P (k := 0) (N := N_may_follow) (g := g_may_follow) Fn sc_may_follow fun cdv A outer s H E hr hgd => by
  have nd : N_may_follow.Nodup := sc_may_follow.nd
  unfold g_may_follow
  exact (ss_seq (ss_if (xt_P (PW.pt (tw_or (tp_cmp (o_eq (room_u hr (by decide))) d_eq (ep_ix ix_seq d_ix (ep_var (pv 0)) ep_int (fun _ _ => rfl)) ep_str rfl) (tw_or1 (tp_cmp o_lt d_lt (ep_ix ix_seq d_ix (ep_var (pv 1)) ep_int (fun _ _ => rfl)) (ep_ix ix_seq d_ix (ep_var (pv 0)) ep_int (fun _ _ => rfl)) rfl)))))
  (ss_one (ss_ret (eo_X (ex_P ep_bl))))
  ss_nil)
  (ss_one (ss_ret (eo_X (ex_P (ep_or (ep_cmp o_gt d_gt (ep_ix ix_seq d_ix (ep_var (pv 1)) ep_int (fun _ _ => rfl)) (ep_ix ix_seq d_ix (ep_var (pv 0)) ep_int (fun _ _ => rfl)) rfl) (ep_one (ep_and (ep_cmp (o_eq (room_u hr (by decide))) d_eq (ep_ix ix_seq d_ix (ep_var (pv 0)) ep_int (fun _ _ => rfl)) ep_str rfl) (ep_one (ep_cmp (o_ne (room_u hr (by decide))) d_ne (ep_ix ix_seq d_ix (ep_var (pv 1)) ep_int (fun _ _ => rfl)) ep_str rfl))))))))))
abbrev st_need_line : Stmt := top 31
abbrev N_need_line : List Str := ["thing", "pair", "one", "other"]
theorem sc_need_line : FnScope N_need_line ["thing"] (defScope st_need_line) := ⟨rfl, rfl, rfl, by decide +kernel, rfl, by decide +kernel, by decide +kernel⟩
def g_need_line : SFX St2 :=
  (gSeqX (gIfX (xtP (gOr (gNot (gTr (gIsi "tuple" (gVar 0)))) (gOr (gB (gOp gtD (gCall (gCons (gVar 0) gNil) lenD) (gC (.int 2000)))) (gNot (gTr (gCall (gCons (gL (gLc (gSrc (gVar 0)) [1] (asgN 1) gYes (gCallP 1 F_is_pair (gCons (gVar 1) gNil)))) gNil) allD))))))
  (gRaise ⟨"BadLineup", none⟩)
  gNextX)
  (gIfX (xtP (gNot (gTr (gCall (gCons (gL (gLc (gArgs (gCons (gVar 0) (gCons (gSlA (gVar 0) (gPart (gC (.int 1))) gNoPart) gNil)) zip2) [2, 3] (asgT [2, 3]) gYes (gCallP 2 F_may_follow (gCons (gVar 2) (gCons (gVar 3) gNil))))) gNil) allD))))
  (gRaise ⟨"BadLineup", none⟩)
  gNextX))
def FX_need_line : List D → Option (Except Exc (MO St2)) := runPX 4 g_need_line
def F_need_line : List D → Option (MO St2) := fun as => okX (FX_need_line as)
theorem ok_need_line {P : Program} {w : World} {K : PySem.W.Frag} {mg : Str → Option Value} {base : Heap} {f : Addr} {fd : FuncData} (Fn : Fun K "need_line" "need_line" st_need_line f fd) (c_is_pair : Cl P w K mg base 2 "is_pair" (spP K R2i 1 F_is_pair)) (c_may_follow : Cl P w K mg base 1 "may_follow" (spP K R2i 2 F_may_follow)) (m_all : mg "all" = none) (m_isinstance : mg "isinstance" = none) (m_len : mg "len" = none) (m_tuple : mg "tuple" = none) (m_zip : mg "zip" = none) (g_MOST_PAIRS : ∃ t, mg "MOST_PAIRS" = some (.int 2000 t)) (e_BadLineup : ExcT K mg "BadLineup") :
    FnG P w K mg base (CX P w) 3 f fd ["thing"] (spPX K R2i mg 1 FX_need_line) := fn_PX (k := 2) (N := N_need_line) (g := g_need_line) Fn sc_need_line fun cdv A outer s H E hr hgd tk => by
  have nd : N_need_line.Nodup := sc_need_line.nd
  unfold g_need_line
  exact (sx_seq (sx_if (xt_P (PW.pt (tw_or (tp_not (tp_tr (ep_isi (v2 := .none) (by rfl) m_isinstance (ep_var (pv 0)) (pe_bltn (by rfl) m_tuple (by decide +kernel) rfl)))) (tw_or (tp_cmp o_gt d_gt (ep_cb call_len d_len (by rfl) m_len (by decide +kernel) (ap_cons (ep_var (pv 0)) ap_nil)) (ep_globI (by rfl) g_MOST_PAIRS) rfl) (tw_or1 (tp_not (tp_tr (ep_cb (cr_all rfl) d_all (by rfl) m_all (by decide +kernel) (ap_cons (ep_f (ef_lc (own := [("pair", 1)]) tgd_name (own_name (by decide)) rfl nd (pi_any (ep_var (pv 0))) (blkOk_by (N := N_need_line) (sc := defScope st_need_line) (by decide +kernel)) (fun _ _ _ _ _ => (pg_name (i := 1) nd rfl (Or.inl rfl))) (fun _ _ _ _ _ => pts_yes) (fun _ _ _ _ _ => (cp_call c_is_pair (by decide) hr hgd (by rfl) (ap_cons (ep_var (pv 1)) ap_nil))))) ap_nil)))))))))
  (sx_one (sx_raise rfl tk e_BadLineup (by rfl)))
  sx_nil)
  (sx_one (sx_if (xt_P (tp_not (tp_tr (ep_cb (cr_all rfl) d_all (by rfl) m_all (by decide +kernel) (ap_cons (ep_f (ef_lc (own := [("one", 2), ("other", 3)]) (tgd_tup (is := [2, 3])) (own_tup (by decide)) rfl nd (pi_zp (by rfl) m_zip (ap_cons (ep_var (pv 0)) (ap_cons (ep_slA (ep_var (pv 0)) (op_part ep_int) op_no) ap_nil))) (blkOk_by (N := N_need_line) (sc := defScope st_need_line) (by decide +kernel)) (fun _ _ _ _ _ => (pg_tup rfl (pgs_cons (pg_name (i := 2) nd rfl (Or.inl rfl)) (pgs_cons (pg_name (i := 3) nd rfl (Or.inl rfl)) pgs_nil)))) (fun _ _ _ _ _ => pts_yes) (fun _ _ _ _ _ => (cp_call c_may_follow (by decide) hr hgd (by rfl) (ap_cons (ep_var (pv 2)) (ap_cons (ep_var (pv 3)) ap_nil)))))) ap_nil)))))
  (sx_one (sx_raise rfl tk e_BadLineup (by rfl)))
  sx_nil)))
abbrev st_days_of : Stmt := top 32
abbrev N_days_of : List Str := ["pairs", "word", "day", "told"]
theorem sc_days_of : FnScope N_days_of ["pairs", "word"] (defScope st_days_of) := ⟨rfl, rfl, rfl, by decide +kernel, rfl, by decide +kernel, by decide +kernel⟩
def g_days_of : SF St2 :=
  (gRet (oX (xP (gCall (gCons (gL (gLc (gSrc (gVar 0)) [2, 3] (asgT [2, 3]) (gB (gOp eqD (gVar 3) (gVar 1))) (gVar 2))) gNil) tupleD))))
def F_days_of : List D → Option (MO St2) := runP 4 g_days_of
theorem ok_days_of {P : Program} {w : World} {K : PySem.W.Frag} {mg : Str → Option Value} {base : Heap} {f : Addr} {fd : FuncData} (Fn : Fun K "days_of" "days_of" st_days_of f fd) (m_tuple : mg "tuple" = none) :
    FnG P w K mg base CX0 1 f fd ["pairs", "word"] (spP K R2i 2 F_days_of) := fn_P (k := 0) (N := N_days_of) (g := g_days_of) Fn sc_days_of fun cdv A outer s H E hr hgd => by
  have nd : N_days_of.Nodup := sc_days_of.nd
  unfold g_days_of
  exact (ss_one (ss_ret (eo_X (ex_P (ep_ct call_tupF d_tuple (by rfl) m_tuple (by decide +kernel) (ap_cons (ep_f (ef_lc (own := [("day", 2), ("told", 3)]) (tgd_tup (is := [2, 3])) (own_tup (by decide)) rfl nd (pi_any (ep_var (pv 0))) (blkOk_by (N := N_days_of) (sc := defScope st_days_of) (by decide +kernel)) (fun _ _ _ _ _ => (pg_tup rfl (pgs_cons (pg_name (i := 2) nd rfl (Or.inl rfl)) (pgs_cons (pg_name (i := 3) nd rfl (Or.inl rfl)) pgs_nil)))) (fun _ _ _ _ _ => (pts_one (tp_cmp (o_eq (room_u hr (by decide))) d_eq (ep_var (pv 3)) (ep_var (pv 1)) rfl))) (fun _ _ _ _ _ => (ep_var (pv 2))))) ap_nil))))))
abbrev st_Roll___init__ : Stmt := inClass (top 33) 0
abbrev N_Roll___init__ : List Str := ["self", "rules"]
theorem sc_Roll___init__ : FnScope N_Roll___init__ ["self", "rules"] (defScope st_Roll___init__) := ⟨rfl, rfl, rfl, by decide +kernel, rfl, by decide +kernel, by decide +kernel⟩
def g_Roll___init__ : SF St2 :=
  (gSeq (gSetFld 0 "Roll" "own_rules" (oX (xP (gVar 1))))
  (gSeq (gSetFld 0 "Roll" "pairs" (oP (gLst gNil)))
  (gSetFld 0 "Roll" "earned_by" (oX (xP (gC .none))))))
def F_Roll___init__ : Fls → List D → Option (MO St2 × Fls) := runB "Roll" 2 g_Roll___init__
theorem ok_Roll___init__ {P : Program} {w : World} {K : PySem.W.Frag} {mg : Str → Option Value} {base : Heap} {f : Addr} {fd : FuncData} {o_Roll : Addr} (Fn : Fun K "__init__" "Roll.__init__" st_Roll___init__ f fd) (cx_Roll : ClsX K "Roll" o_Roll) (na_Roll_own_rules : NoAttr K o_Roll "own_rules") (na_Roll_pairs : NoAttr K o_Roll "pairs") (na_Roll_earned_by : NoAttr K o_Roll "earned_by") :
    FnG P w K mg base CX0 1 f fd ["self", "rules"] (spB K R2i "Roll" 2 F_Roll___init__) := fn_B (k := 0) (N := N_Roll___init__) (g := g_Roll___init__) Fn sc_Roll___init__ fun cdv A outer s H E hr hgd => by
  have nd : N_Roll___init__.Nodup := sc_Roll___init__.nd
  unfold g_Roll___init__
  exact (ss_seq (ss_setFld cx_Roll na_Roll_own_rules (pv 0) (eo_X (ex_P (ep_var (pv 1)))) rfl)
  (ss_seq (ss_setFld cx_Roll na_Roll_pairs (pv 0) (eo_P (ef_lst ap_nil)) rfl)
  (ss_one (ss_setFld cx_Roll na_Roll_earned_by (pv 0) (eo_X (ex_P ep_non)) rfl))))
abbrev st_Roll_has_standing : Stmt := inClass (top 33) 1
abbrev N_Roll_has_standing : List Str := ["self"]
theorem sc_Roll_has_standing : FnScope N_Roll_has_standing ["self"] (defScope st_Roll_has_standing) := ⟨rfl, rfl, rfl, by decide +kernel, rfl, by decide +kernel, by decide +kernel⟩
def g_Roll_has_standing : SF St2 :=
  (gRet (oX (xP (gOp notND (gFld "Roll" "earned_by" (gVar 0)) (gC .none)))))
def F_Roll_has_standing : List D → Option (MO St2) := runP 1 g_Roll_has_standing
theorem ok_Roll_has_standing {P : Program} {w : World} {K : PySem.W.Frag} {mg : Str → Option Value} {base : Heap} {f : Addr} {fd : FuncData} {o_Roll : Addr} (Fn : Fun K "has_standing" "Roll.has_standing" st_Roll_has_standing f fd) (cx_Roll : ClsX K "Roll" o_Roll) (na_Roll_earned_by : NoAttr K o_Roll "earned_by") :
    FnG P w K mg base CX0 1 f fd ["self"] (spP K R2i 1 F_Roll_has_standing) := fn_P (k := 0) (N := N_Roll_has_standing) (g := g_Roll_has_standing) Fn sc_Roll_has_standing fun cdv A outer s H E hr hgd => by
  have nd : N_Roll_has_standing.Nodup := sc_Roll_has_standing.nd
  unfold g_Roll_has_standing
  exact (ss_one (ss_ret (eo_X (ex_P (ep_cmp op_notN d_notN (ep_fld cx_Roll na_Roll_earned_by (ep_var (pv 0))) ep_non rfl)))))
abbrev st_Roll_emptied : Stmt := inClass (top 33) 2
abbrev N_Roll_emptied : List Str := ["self"]
theorem sc_Roll_emptied : FnScope N_Roll_emptied ["self"] (defScope st_Roll_emptied) := ⟨rfl, rfl, rfl, by decide +kernel, rfl, by decide +kernel, by decide +kernel⟩
def g_Roll_emptied : SF St2 :=
  (gSeq (gSetFld 0 "Roll" "pairs" (oP (gLst gNil)))
  (gSetFld 0 "Roll" "earned_by" (oX (xP (gC .none)))))
def F_Roll_emptied : Fls → List D → Option (MO St2 × Fls) := runB "Roll" 1 g_Roll_emptied
theorem ok_Roll_emptied {P : Program} {w : World} {K : PySem.W.Frag} {mg : Str → Option Value} {base : Heap} {f : Addr} {fd : FuncData} {o_Roll : Addr} (Fn : Fun K "emptied" "Roll.emptied" st_Roll_emptied f fd) (cx_Roll : ClsX K "Roll" o_Roll) (na_Roll_pairs : NoAttr K o_Roll "pairs") (na_Roll_earned_by : NoAttr K o_Roll "earned_by") :
    FnG P w K mg base CX0 1 f fd ["self"] (spB K R2i "Roll" 1 F_Roll_emptied) := fn_B (k := 0) (N := N_Roll_emptied) (g := g_Roll_emptied) Fn sc_Roll_emptied fun cdv A outer s H E hr hgd => by
  have nd : N_Roll_emptied.Nodup := sc_Roll_emptied.nd
  unfold g_Roll_emptied
  exact (ss_seq (ss_setFld cx_Roll na_Roll_pairs (pv 0) (eo_P (ef_lst ap_nil)) rfl)
  (ss_one (ss_setFld cx_Roll na_Roll_earned_by (pv 0) (eo_X (ex_P ep_non)) rfl)))
abbrev st_Roll_lost_by : Stmt := inClass (top 33) 3
abbrev N_Roll_lost_by : List Str := ["self", "earn", "of", "miss", "away", "last", "told"]
theorem sc_Roll_lost_by : FnScope N_Roll_lost_by ["self"] (defScope st_Roll_lost_by) := ⟨rfl, rfl, rfl, by decide +kernel, rfl, by decide +kernel, by decide +kernel⟩
def g_Roll_lost_by : SF St2 :=
  (gSeq (gAsgT (asgT [1, 2, 3, 4]) (xP (gFld "Roll" "own_rules" (gVar 0))))
  (gSeq (gAsg 5 (oX (xP (gCallP 2 F_days_of (gCons (gSlA (gFld "Roll" "pairs" (gVar 0)) (gPart (gUn negD (gVar 3))) gNoPart) (gCons (gC (.str "missed")) gNil))))))
  (gSeq (gIfS (xtP (gB (gOp eqD (gCall (gCons (gVar 5) gNil) lenD) (gVar 3))))
  (gRet (oX (xP (gTup (gCons (gC (.str "missed")) (gCons (gVar 5) gNil))))))
  gNext)
  (gSeq (gAsg 6 (oX (xP (gCallP 2 F_days_of (gCons (gSlA (gFld "Roll" "pairs" (gVar 0)) (gPart (gCall (gCons (gFld "Roll" "earned_by" (gVar 0)) (gCons (gOp subD (gCall (gCons (gFld "Roll" "pairs" (gVar 0)) gNil) lenD) (gVar 2)) gNil)) max2)) gNoPart) (gCons (gC (.str "told")) gNil))))))
  (gRet (oX (xP (gIf (gB (gOp gtD (gCall (gCons (gVar 6) gNil) lenD) (gVar 4))) (gTup (gCons (gC (.str "away")) (gCons (gVar 6) gNil))) (gC .none)))))))))
def F_Roll_lost_by : List D → Option (MO St2) := runP 7 g_Roll_lost_by
theorem ok_Roll_lost_by {P : Program} {w : World} {K : PySem.W.Frag} {mg : Str → Option Value} {base : Heap} {f : Addr} {fd : FuncData} {o_Roll : Addr} (Fn : Fun K "lost_by" "Roll.lost_by" st_Roll_lost_by f fd) (c_days_of : Cl P w K mg base 1 "days_of" (spP K R2i 2 F_days_of)) (m_len : mg "len" = none) (m_max : mg "max" = none) (cx_Roll : ClsX K "Roll" o_Roll) (na_Roll_own_rules : NoAttr K o_Roll "own_rules") (na_Roll_pairs : NoAttr K o_Roll "pairs") (na_Roll_earned_by : NoAttr K o_Roll "earned_by") :
    FnG P w K mg base CX0 2 f fd ["self"] (spP K R2i 1 F_Roll_lost_by) := fn_P (k := 1) (N := N_Roll_lost_by) (g := g_Roll_lost_by) Fn sc_Roll_lost_by fun cdv A outer s H E hr hgd => by
  have nd : N_Roll_lost_by.Nodup := sc_Roll_lost_by.nd
  unfold g_Roll_lost_by
  exact (ss_seq (ss_asgT (tgd_tup (is := [1, 2, 3, 4])) (notin_own (own := [1, 2, 3, 4]) (own_tup (by decide)) (by decide)) (ex_P (ep_fld cx_Roll na_Roll_own_rules (ep_var (pv 0)))) (pg_tup rfl (pgs_cons (pg_name (i := 1) nd rfl (Or.inl rfl)) (pgs_cons (pg_name (i := 2) nd rfl (Or.inl rfl)) (pgs_cons (pg_name (i := 3) nd rfl (Or.inl rfl)) (pgs_cons (pg_name (i := 4) nd rfl (Or.inl rfl)) pgs_nil))))))
  (ss_seq (ss_set (by decide) nd rfl (Or.inl rfl) (eo_X (ex_P (cp_call c_days_of (by decide) hr hgd (by rfl) (ap_cons (ep_slA (ep_fld cx_Roll na_Roll_pairs (ep_var (pv 0))) (op_part (ep_un un_neg d_neg (ep_var (pv 3)))) op_no) (ap_cons ep_str ap_nil))))))
  (ss_seq (ss_if (xt_P (tp_cmp (o_eq (room_u hr (by decide))) d_eq (ep_cb call_len d_len (by rfl) m_len (by decide +kernel) (ap_cons (ep_var (pv 5)) ap_nil)) (ep_var (pv 3)) rfl))
  (ss_one (ss_ret (eo_X (ex_P (ep_tup (ap_cons ep_str (ap_cons (ep_var (pv 5)) ap_nil)))))))
  ss_nil)
  (ss_seq (ss_set (by decide) nd rfl (Or.inl rfl) (eo_X (ex_P (cp_call c_days_of (by decide) hr hgd (by rfl) (ap_cons (ep_slA (ep_fld cx_Roll na_Roll_pairs (ep_var (pv 0))) (op_part (ep_cb (call_max2 rfl) d_max2 (by rfl) m_max (by decide +kernel) (ap_cons (ep_fld cx_Roll na_Roll_earned_by (ep_var (pv 0))) (ap_cons (ep_bin op_sub d_sub (ep_cb call_len d_len (by rfl) m_len (by decide +kernel) (ap_cons (ep_fld cx_Roll na_Roll_pairs (ep_var (pv 0))) ap_nil)) (ep_var (pv 2))) ap_nil)))) op_no) (ap_cons ep_str ap_nil))))))
  (ss_one (ss_ret (eo_X (ex_P (ep_if (tp_cmp o_gt d_gt (ep_cb call_len d_len (by rfl) m_len (by decide +kernel) (ap_cons (ep_var (pv 6)) ap_nil)) (ep_var (pv 4)) rfl) (ep_tup (ap_cons ep_str (ap_cons (ep_var (pv 6)) ap_nil))) ep_non)))))))))
abbrev st_Roll_came_days : Stmt := inClass (top 33) 4
abbrev N_Roll_came_days : List Str := ["self"]
theorem sc_Roll_came_days : FnScope N_Roll_came_days ["self"] (defScope st_Roll_came_days) := ⟨rfl, rfl, rfl, by decide +kernel, rfl, by decide +kernel, by decide +kernel⟩
def g_Roll_came_days : SF St2 :=
  (gRet (oX (xP (gCallP 2 F_days_of (gCons (gSlA (gFld "Roll" "pairs" (gVar 0)) (gPart (gCall (gCons (gC (.int 0)) (gCons (gOp subD (gCall (gCons (gFld "Roll" "pairs" (gVar 0)) gNil) lenD) (gOp ixD (gFld "Roll" "own_rules" (gVar 0)) (gC (.int 1)))) gNil)) max2)) gNoPart) (gCons (gC (.str "came")) gNil))))))
def F_Roll_came_days : List D → Option (MO St2) := runP 1 g_Roll_came_days
theorem ok_Roll_came_days {P : Program} {w : World} {K : PySem.W.Frag} {mg : Str → Option Value} {base : Heap} {f : Addr} {fd : FuncData} {o_Roll : Addr} (Fn : Fun K "came_days" "Roll.came_days" st_Roll_came_days f fd) (c_days_of : Cl P w K mg base 1 "days_of" (spP K R2i 2 F_days_of)) (m_len : mg "len" = none) (m_max : mg "max" = none) (cx_Roll : ClsX K "Roll" o_Roll) (na_Roll_pairs : NoAttr K o_Roll "pairs") (na_Roll_own_rules : NoAttr K o_Roll "own_rules") :
    FnG P w K mg base CX0 2 f fd ["self"] (spP K R2i 1 F_Roll_came_days) := fn_P (k := 1) (N := N_Roll_came_days) (g := g_Roll_came_days) Fn sc_Roll_came_days fun cdv A outer s H E hr hgd => by
  have nd : N_Roll_came_days.Nodup := sc_Roll_came_days.nd
  unfold g_Roll_came_days
  exact (ss_one (ss_ret (eo_X (ex_P (cp_call c_days_of (by decide) hr hgd (by rfl) (ap_cons (ep_slA (ep_fld cx_Roll na_Roll_pairs (ep_var (pv 0))) (op_part (ep_cb (call_max2 rfl) d_max2 (by rfl) m_max (by decide +kernel) (ap_cons ep_int (ap_cons (ep_bin op_sub d_sub (ep_cb call_len d_len (by rfl) m_len (by decide +kernel) (ap_cons (ep_fld cx_Roll na_Roll_pairs (ep_var (pv 0))) ap_nil)) (ep_ix ix_seq d_ix (ep_fld cx_Roll na_Roll_own_rules (ep_var (pv 0))) ep_int (fun _ _ => rfl))) ap_nil)))) op_no) (ap_cons ep_str ap_nil)))))))
abbrev st_Roll_went_on : Stmt := inClass (top 33) 5
abbrev N_Roll_went_on : List Str := ["self", "day", "word", "lost", "came"]
theorem sc_Roll_went_on : FnScope N_Roll_went_on ["self", "day", "word"] (defScope st_Roll_went_on) := ⟨rfl, rfl, rfl, by decide +kernel, rfl, by decide +kernel, by decide +kernel⟩
def g_Roll_went_on : SF St2 :=
  (gSeq (gDrop (xMtF 0 "Roll" "pairs" appD (gCons (gTup (gCons (gVar 1) (gCons (gVar 2) gNil))) gNil)))
  (gSeq (gIfS (xtP (gTr (gMeth 1 "Roll" "has_standing" F_Roll_has_standing (gVar 0) gNil)))
  (gSeq (gAsg 3 (oX (xB (gMeth 1 "Roll" "lost_by" F_Roll_lost_by (gVar 0) gNil))))
  (gSeq (gIfS (xtP (gB (gOp isND (gVar 3) (gC .none))))
  (gRet (oP (gLst gNil)))
  gNext)
  (gSeq (gDrop (xO (oCallB 1 0 "Roll" "emptied" F_Roll_emptied xNil)))
  (gRet (oP (gLst (gCons (gTup (gCons (gVar 1) (gCons (gOp ixD (gVar 3) (gC (.int 0))) (gCons (gOp ixD (gVar 3) (gC (.int 1))) gNil)))) gNil)))))))
  gNext)
  (gSeq (gAsg 4 (oX (xB (gMeth 1 "Roll" "came_days" F_Roll_came_days (gVar 0) gNil))))
  (gSeq (gIfS (xtP (gOr (gB (gOp neD (gVar 2) (gC (.str "came")))) (gB (gOp ltD (gCall (gCons (gVar 4) gNil) lenD) (gOp ixD (gFld "Roll" "own_rules" (gVar 0)) (gC (.int 0)))))))
  (gRet (oP (gLst gNil)))
  gNext)
  (gSeq (gSetFld 0 "Roll" "earned_by" (oX (xB (gCall (gCons (gFld "Roll" "pairs" (gVar 0)) gNil) lenD))))
  (gRet (oP (gLst (gCons (gTup (gCons (gVar 1) (gCons (gC (.str "earned")) (gCons (gVar 4) gNil)))) gNil)))))))))
def F_Roll_went_on : Fls → List D → Option (MO St2 × Fls) := runB "Roll" 5 g_Roll_went_on
theorem ok_Roll_went_on {P : Program} {w : World} {K : PySem.W.Frag} {mg : Str → Option Value} {base : Heap} {f : Addr} {fd : FuncData} {o_Roll : Addr} (Fn : Fun K "went_on" "Roll.went_on" st_Roll_went_on f fd) (m_len : mg "len" = none) (cx_Roll : ClsX K "Roll" o_Roll) (na_Roll_pairs : NoAttr K o_Roll "pairs") (na_Roll_own_rules : NoAttr K o_Roll "own_rules") (na_Roll_earned_by : NoAttr K o_Roll "earned_by") (cm_Roll_has_standing : ClM P w K mg base 1 o_Roll "has_standing" (spP K R2i 1 F_Roll_has_standing)) (cm_Roll_lost_by : ClM P w K mg base 2 o_Roll "lost_by" (spP K R2i 1 F_Roll_lost_by)) (cm_Roll_emptied : ClM P w K mg base 1 o_Roll "emptied" (spB K R2i "Roll" 1 F_Roll_emptied)) (cm_Roll_came_days : ClM P w K mg base 2 o_Roll "came_days" (spP K R2i 1 F_Roll_came_days)) :
    FnG P w K mg base CX0 3 f fd ["self", "day", "word"] (spB K R2i "Roll" 3 F_Roll_went_on) := fn_B (k := 2) (N := N_Roll_went_on) (g := g_Roll_went_on) Fn sc_Roll_went_on fun cdv A outer s H E hr hgd => by
  have nd : N_Roll_went_on.Nodup := sc_Roll_went_on.nd
  unfold g_Roll_went_on
  exact (ss_seq (ss_drop (ex_appF cx_Roll na_Roll_pairs (pv 0) (ap_cons (ep_tup (ap_cons (ep_var (pv 1)) (ap_cons (ep_var (pv 2)) ap_nil))) ap_nil)))
  (ss_seq (ss_if (xt_P (tp_tr (cp_meth0 cm_Roll_has_standing cx_Roll (by decide) hr hgd (ep_var (pv 0)))))
  (ss_seq (ss_set (by decide) nd rfl (Or.inl rfl) (eo_X (ex_B (cp_meth0 cm_Roll_lost_by cx_Roll (by decide) hr hgd (ep_var (pv 0))))))
  (ss_seq (ss_if (xt_P (tp_cmp op_isN d_isN (ep_var (pv 3)) ep_non rfl))
  (ss_one (ss_ret (eo_P (ef_lst ap_nil))))
  ss_nil)
  (ss_seq (ss_drop (ex_O (co_callB0 cm_Roll_emptied cx_Roll (by decide) hr hgd (pv 0))))
  (ss_one (ss_ret (eo_P (ef_lst (ap_cons (ep_tup (ap_cons (ep_var (pv 1)) (ap_cons (ep_ix ix_seq d_ix (ep_var (pv 3)) ep_int (fun _ _ => rfl)) (ap_cons (ep_ix ix_seq d_ix (ep_var (pv 3)) ep_int (fun _ _ => rfl)) ap_nil)))) ap_nil))))))))
  ss_nil)
  (ss_seq (ss_set (by decide) nd rfl (Or.inl rfl) (eo_X (ex_B (cp_meth0 cm_Roll_came_days cx_Roll (by decide) hr hgd (ep_var (pv 0))))))
  (ss_seq (ss_if (xt_P (PW.pt (tw_or (tp_cmp (o_ne (room_u hr (by decide))) d_ne (ep_var (pv 2)) ep_str rfl) (tw_or1 (tp_cmp o_lt d_lt (ep_cb call_len d_len (by rfl) m_len (by decide +kernel) (ap_cons (ep_var (pv 4)) ap_nil)) (ep_ix ix_seq d_ix (ep_fld cx_Roll na_Roll_own_rules (ep_var (pv 0))) ep_int (fun _ _ => rfl)) rfl)))))
  (ss_one (ss_ret (eo_P (ef_lst ap_nil))))
  ss_nil)
  (ss_seq (ss_setFld cx_Roll na_Roll_earned_by (pv 0) (eo_X (ex_B (ep_cb call_len d_len (by rfl) m_len (by decide +kernel) (ap_cons (ep_fld cx_Roll na_Roll_pairs (ep_var (pv 0))) ap_nil)))) rfl)
  (ss_one (ss_ret (eo_P (ef_lst (ap_cons (ep_tup (ap_cons (ep_var (pv 1)) (ap_cons ep_str (ap_cons (ep_var (pv 4)) ap_nil)))) ap_nil))))))))))
abbrev st_rows_by : Stmt := top 34
abbrev N_rows_by : List Str := ["rules", "line", "roll", "found", "day", "word"]
theorem sc_rows_by : FnScope N_rows_by ["rules", "line"] (defScope st_rows_by) := ⟨rfl, rfl, rfl, by decide +kernel, rfl, by decide +kernel, by decide +kernel⟩
def g_rows_by : SFX St2 :=
  (gSeqX (gDropX 1 FX_need_rules (xCons (xP (gVar 0)) xNil))
  (gSeqX (gDropX 1 FX_need_line (xCons (xP (gVar 1)) xNil))
  (gSeqX (gLift (gAsg 2 (oMake "Roll" 2 F_Roll___init__ (xCons (xP (gVar 0)) xNil))))
  (gSeqX (gLift (gAsg 3 (oP (gLst gNil))))
  (gSeqX (gForX (eL (xiP (gSrc (gVar 1)))) (asgT [4, 5])
  (gIfX (xtP (gB (gOp inD (gVar 5) (gC (.tuple ((["came", "told", "missed"] : List Str).map .str))))))
  (gLift (gDrop (xMt 3 extBD (xCons (xO (oCallB 3 2 "Roll" "went_on" F_Roll_went_on (xCons (xP (gVar 4)) (xCons (xP (gVar 5)) xNil)))) xNil))))
  (gIfX (xtP (gTr (gMeth 1 "Roll" "has_standing" F_Roll_has_standing (gVar 2) gNil)))
  (gSeqX (gLift (gDrop (xO (oCallB 1 2 "Roll" "emptied" F_Roll_emptied xNil))))
  (gLift (gDrop (xMt 3 appD (xCons (xP (gTup (gCons (gVar 4) (gCons (gVar 5) (gCons (gTup gNil) gNil))))) xNil)))))
  (gIfX (xtP (gB (gOp eqD (gVar 5) (gC (.str "given")))))
  (gRaise ⟨"BadLineup", none⟩)
  gNextX))))
  (gLift (gRet (oMove 3))))))))
def FX_rows_by : List D → Option (Except Exc (MO St2)) := runPX 6 g_rows_by
def F_rows_by : List D → Option (MO St2) := fun as => okX (FX_rows_by as)
theorem ok_rows_by {P : Program} {w : World} {K : PySem.W.Frag} {mg : Str → Option Value} {base : Heap} {f : Addr} {fd : FuncData} {o_Roll : Addr} (Fn : Fun K "rows_by" "rows_by" st_rows_by f fd) (t_ROLL_WORDS : TopTup K mg "ROLL_WORDS" ["came", "told", "missed"]) (cx_Roll : ClsX K "Roll" o_Roll) (cm_Roll_went_on : ClM P w K mg base 3 o_Roll "went_on" (spB K R2i "Roll" 3 F_Roll_went_on)) (cm_Roll_has_standing : ClM P w K mg base 1 o_Roll "has_standing" (spP K R2i 1 F_Roll_has_standing)) (cm_Roll_emptied : ClM P w K mg base 1 o_Roll "emptied" (spB K R2i "Roll" 1 F_Roll_emptied)) (ck_Roll : ClK P w K mg base 1 o_Roll "Roll" (spB K R2i "Roll" 2 F_Roll___init__)) (cx_need_rules : ClX P w K R2i mg base 2 "need_rules" 1 FX_need_rules) (cx_need_line : ClX P w K R2i mg base 3 "need_line" 1 FX_need_line) (e_BadLineup : ExcT K mg "BadLineup") :
    FnG P w K mg base (CX P w) 4 f fd ["rules", "line"] (spPX K R2i mg 2 FX_rows_by) := fn_PX (k := 3) (N := N_rows_by) (g := g_rows_by) Fn sc_rows_by fun cdv A outer s H E hr hgd tk => by
  have nd : N_rows_by.Nodup := sc_rows_by.nd
  unfold g_rows_by
  exact (sx_seq (sx_drop cx_need_rules (by decide) hr hgd (by rfl) tk (ax_cons (ex_P (ep_var (pv 0))) ax_nil))
  (sx_seq (sx_drop cx_need_line (by decide) hr hgd (by rfl) tk (ax_cons (ex_P (ep_var (pv 1))) ax_nil))
  (sx_seq (sx_lift (ss_set (by decide) nd rfl (Or.inl rfl) (co_make ck_Roll cx_Roll (by decide) hr hgd (by rfl) (ax_cons (ex_P (ep_var (pv 0))) ax_nil))))
  (sx_seq (sx_lift (ss_set (by decide) nd rfl (Or.inl rfl) (eo_P (ef_lst ap_nil))))
  (sx_seq (sx_for (passes_of rfl) (tgd_tup (is := [4, 5])) (notin_own (own := [4, 5]) (own_tup (by decide)) (by decide)) rfl (xi_L (xi_P (pi_any (ep_var (pv 1))))) (pg_tup rfl (pgs_cons (pg_name (i := 4) nd rfl (Or.inl rfl)) (pgs_cons (pg_name (i := 5) nd rfl (Or.inl rfl)) pgs_nil)))
  (sx_one (sx_if (xt_P (tp_cmp (o_in (room_u hr (by decide))) d_in (ep_var (pv 5)) (ep_globT (by rfl) t_ROLL_WORDS (by decide +kernel) (by decide)) rfl))
  (sx_one (sx_lift (ss_drop (ex_extB (pv 3) (ax_cons (ex_O (co_callB cm_Roll_went_on cx_Roll (by decide) hr hgd (pv 2) (ax_cons (ex_P (ep_var (pv 4))) (ax_cons (ex_P (ep_var (pv 5))) ax_nil)))) ax_nil)))))
  (sx_one (sx_if (xt_P (tp_tr (cp_meth0 cm_Roll_has_standing cx_Roll (by decide) hr hgd (ep_var (pv 2)))))
  (sx_seq (sx_lift (ss_drop (ex_O (co_callB0 cm_Roll_emptied cx_Roll (by decide) hr hgd (pv 2)))))
  (sx_one (sx_lift (ss_drop (ex_app (pv 3) (ax_cons (ex_P (ep_tup (ap_cons (ep_var (pv 4)) (ap_cons (ep_var (pv 5)) (ap_cons (ep_tup ap_nil) ap_nil))))) ax_nil))))))
  (sx_one (sx_if (xt_P (tp_cmp (o_eq (room_u hr (by decide))) d_eq (ep_var (pv 5)) ep_str rfl))
  (sx_one (sx_raise rfl tk e_BadLineup (by rfl)))
  sx_nil)))))))
  (sx_one (sx_lift (ss_ret (eo_move (pv 3))))))))))
abbrev st_law_next : Stmt := top 36
abbrev N_law_next : List Str := ["_law_state_here", "_law_many", "_law_cells", "_law_found", "_law_k", "_law_primes", "_law_cell", "_law_number"]
theorem sc_law_next : FnScope N_law_next ["_law_state_here", "_law_many"] (defScope st_law_next) := ⟨rfl, rfl, rfl, by decide +kernel, rfl, by decide +kernel, by decide +kernel⟩
def g_law_next : SF St2 :=
  (gSeq (gAsg 2 (oX (xDGetG 0 (gC (.str "cells")))))
  (gSeq (gWhile 64 (xtP (gAnd (gB (gOp eqD (gDGet 0 (gC (.str "left"))) (gC (.int 0)))) (gAnd (gB (gOp ltD (gDGet 0 (gC (.str "cell"))) (gCall (gCons (gVar 2) gNil) lenD))) (gB (gOp eqD (gOp modD (gOp ixD (gVar 2) (gC (.int 0))) (gC (.int 2))) (gC (.int 1)))))))
  (gSeq (gDPut 0 (xB (gOp divD (gCall (gCons (gOp ixD (gVar 2) (gDGet 0 (gC (.str "cell")))) gNil) absD) (gOp ixD (gL (gLst (gCons (gC (.int 1)) (gCons (gC (.int 2)) gNil)))) (gCall (gCons (gOp eqD (gDGet 0 (gC (.str "cell"))) (gC (.int 0))) gNil) intD)))) (gC (.str "left")))
  (gDPut 0 (xB (gOp addA (gDGet 0 (gC (.str "cell"))) (gC (.int 1)))) (gC (.str "cell")))))
  (gSeq (gIfS (xtP (gB (gOp gtD (gDGet 0 (gC (.str "left"))) (gC (.int 0)))))
  (gSeq (gAsg 3 (oX (xB (gOp modD (gDGet 0 (gC (.str "left"))) (gVar 1)))))
  (gSeq (gDPut 0 (xB (gOp divD (gDGet 0 (gC (.str "left"))) (gVar 1))) (gC (.str "left")))
  (gRet (oX (xP (gVar 3))))))
  gNext)
  (gSeq (gAsg 4 (oX (xB (gDGet 0 (gC (.str "at"))))))
  (gSeq (gDPut 0 (xP (gOp addA (gVar 4) (gC (.int 1)))) (gC (.str "at")))
  (gSeq (gAsg 5 (oX (xP (gL (gLst (gCons (gC (.int 2147483629)) (gCons (gC (.int 2147483587)) (gCons (gC (.int 2147483579)) (gCons (gC (.int 2147483563)) (gCons (gC (.int 2147483549)) (gCons (gC (.int 2147483543)) (gCons (gC (.int 2147483497)) gNil))))))))))))
  (gSeq (gAsg 6 (oX (xP (gIf (gB (gOp eqD (gVar 2) (gL (gLst gNil)))) (gC (.int 5)) (gOp modD (gOp ixD (gVar 2) (gOp modD (gVar 4) (gCall (gCons (gVar 2) gNil) lenD))) (gOp ixD (gVar 5) (gOp modD (gVar 4) (gC (.int 7)))))))))
  (gSeq (gAsg 7 (oX (xP (gOp modD (gOp addA (gOp addA (gOp addA (gOp mulD (gVar 6) (gOp addA (gC (.int 48271)) (gOp mulD (gC (.int 2)) (gVar 4)))) (gOp mulD (gOp mulD (gC (.int 69621)) (gVar 4)) (gVar 4))) (gOp mulD (gC (.int 7919)) (gVar 4))) (gC (.int 104729))) (gC (.int 2147483647))))))
  (gRet (oX (xP (gOp modD (gOp divD (gOp modD (gOp mulD (gVar 7) (gC (.int 40692))) (gC (.int 2147483629))) (gC (.int 7))) (gVar 1)))))))))))))
def F_law_next : List (Key × D) → List D → Option (MO St2 × List (Key × D)) := runV 8 g_law_next
theorem ok_law_next {P : Program} {w : World} {K : PySem.W.Frag} {mg : Str → Option Value} {base : Heap} {f : Addr} {fd : FuncData} (Fn : Fun K "_law_next" "_law_next" st_law_next f fd) (m_abs : mg "abs" = none) (m_int : mg "int" = none) (m_len : mg "len" = none) :
    FnG P w K mg base CX0 1 f fd ["_law_state_here", "_law_many"] (spV K R2i 2 F_law_next) := fn_V (k := 0) (N := N_law_next) (g := g_law_next) Fn sc_law_next fun cdv A outer s H E hr hgd => by
  have nd : N_law_next.Nodup := sc_law_next.nd
  unfold g_law_next
  exact (ss_seq (ss_set (by decide) nd rfl (Or.inl rfl) (eo_X (ex_dgetG (room_u hr (by decide)) (pv 0) ep_str (fun _ _ => rfl))))
  (ss_seq (ss_while (xt_P (PW.pt (tw_and (tp_cmp (o_eq (room_u hr (by decide))) d_eq (ep_dget (room_u hr (by decide)) (pv 0) ep_str (fun _ _ => rfl)) ep_int rfl) (tw_and (tp_cmp o_lt d_lt (ep_dget (room_u hr (by decide)) (pv 0) ep_str (fun _ _ => rfl)) (ep_cb call_len d_len (by rfl) m_len (by decide +kernel) (ap_cons (ep_var (pv 2)) ap_nil)) rfl) (tw_and1 (tp_cmp (o_eq (room_u hr (by decide))) d_eq (ep_bin op_mod d_mod (ep_ix ix_seq d_ix (ep_var (pv 2)) ep_int (fun _ _ => rfl)) ep_int) ep_int rfl))))))
  (ss_seq (ss_dput (room_u hr (by decide)) (pv 0) ep_str (ex_B (ep_bin op_fdivW d_div (ep_cb call_abs d_abs (by rfl) m_abs (by decide +kernel) (ap_cons (ep_ix ix_seq d_ix (ep_var (pv 2)) (ep_dget (room_u hr (by decide)) (pv 0) ep_str (fun _ _ => rfl)) (fun _ _ => rfl)) ap_nil)) (ep_ix ix_seq d_ix (ep_f (ef_lst (ap_cons ep_int (ap_cons ep_int ap_nil)))) (ep_ct call_int1 d_int (by rfl) m_int (by decide +kernel) (ap_cons (ep_cmp (o_eq (room_u hr (by decide))) d_eq (ep_dget (room_u hr (by decide)) (pv 0) ep_str (fun _ _ => rfl)) ep_int rfl) ap_nil)) (fun _ _ => rfl)))) rfl)
  (ss_one (ss_dput (room_u hr (by decide)) (pv 0) ep_str (ex_B (ep_bin o_addA d_addA (ep_dget (room_u hr (by decide)) (pv 0) ep_str (fun _ _ => rfl)) ep_int)) rfl))))
  (ss_seq (ss_if (xt_P (tp_cmp o_gt d_gt (ep_dget (room_u hr (by decide)) (pv 0) ep_str (fun _ _ => rfl)) ep_int rfl))
  (ss_seq (ss_set (by decide) nd rfl (Or.inl rfl) (eo_X (ex_B (ep_bin op_mod d_mod (ep_dget (room_u hr (by decide)) (pv 0) ep_str (fun _ _ => rfl)) (ep_var (pv 1))))))
  (ss_seq (ss_dput (room_u hr (by decide)) (pv 0) ep_str (ex_B (ep_bin op_fdivW d_div (ep_dget (room_u hr (by decide)) (pv 0) ep_str (fun _ _ => rfl)) (ep_var (pv 1)))) rfl)
  (ss_one (ss_ret (eo_X (ex_P (ep_var (pv 3))))))))
  ss_nil)
  (ss_seq (ss_set (by decide) nd rfl (Or.inl rfl) (eo_X (ex_B (ep_dget (room_u hr (by decide)) (pv 0) ep_str (fun _ _ => rfl)))))
  (ss_seq (ss_dput (room_u hr (by decide)) (pv 0) ep_str (ex_P (ep_bin o_addA d_addA (ep_var (pv 4)) ep_int)) rfl)
  (ss_seq (ss_set (by decide) nd rfl (Or.inl rfl) (eo_X (ex_P (ep_f (ef_lst (ap_cons ep_int (ap_cons ep_int (ap_cons ep_int (ap_cons ep_int (ap_cons ep_int (ap_cons ep_int (ap_cons ep_int ap_nil))))))))))))
  (ss_seq (ss_set (by decide) nd rfl (Or.inl rfl) (eo_X (ex_P (ep_if (tp_cmp (o_eq (room_u hr (by decide))) d_eq (ep_var (pv 2)) (ep_f (ef_lst ap_nil)) rfl) ep_int (ep_bin op_mod d_mod (ep_ix ix_seq d_ix (ep_var (pv 2)) (ep_bin op_mod d_mod (ep_var (pv 4)) (ep_cb call_len d_len (by rfl) m_len (by decide +kernel) (ap_cons (ep_var (pv 2)) ap_nil))) (fun _ _ => rfl)) (ep_ix ix_seq d_ix (ep_var (pv 5)) (ep_bin op_mod d_mod (ep_var (pv 4)) ep_int) (fun _ _ => rfl)))))))
  (ss_seq (ss_set (by decide) nd rfl (Or.inl rfl) (eo_X (ex_P (ep_bin op_mod d_mod (ep_bin o_addA d_addA (ep_bin o_addA d_addA (ep_bin o_addA d_addA (ep_bin op_mul d_mul (ep_var (pv 6)) (ep_bin o_addA d_addA ep_int (ep_bin op_mul d_mul ep_int (ep_var (pv 4))))) (ep_bin op_mul d_mul (ep_bin op_mul d_mul ep_int (ep_var (pv 4))) (ep_var (pv 4)))) (ep_bin op_mul d_mul ep_int (ep_var (pv 4)))) ep_int) ep_int))))
  (ss_one (ss_ret (eo_X (ex_P (ep_bin op_mod d_mod (ep_bin op_fdivW d_div (ep_bin op_mod d_mod (ep_bin op_mul d_mul (ep_var (pv 7)) ep_int) ep_int) ep_int) (ep_var (pv 1)))))))))))))))
abbrev st_law_state : Stmt := top 37
abbrev N_law_state : List Str := ["_law_cells"]
theorem sc_law_state : FnScope N_law_state ["_law_cells"] (defScope st_law_state) := ⟨rfl, rfl, rfl, by decide +kernel, rfl, by decide +kernel, by decide +kernel⟩
def g_law_state : SF St2 :=
  (gRet (oDict4 "cells" "at" "cell" "left" (gVar 0) (0) (0) (0)))
def F_law_state : List D → Option (MO St2) := runP 1 g_law_state
theorem ok_law_state {P : Program} {w : World} {K : PySem.W.Frag} {mg : Str → Option Value} {base : Heap} {f : Addr} {fd : FuncData} (Fn : Fun K "_law_state" "_law_state" st_law_state f fd) :
    FnG P w K mg base CX0 1 f fd ["_law_cells"] (spP K R2i 1 F_law_state) := fn_P (k := 0) (N := N_law_state) (g := g_law_state) Fn sc_law_state fun cdv A outer s H E hr hgd => by
  have nd : N_law_state.Nodup := sc_law_state.nd
  unfold g_law_state
  exact (ss_one (ss_ret (eo_dict4 pe_str (ep_var (pv 0)) pe_str pe_int pe_str pe_int pe_str pe_int)))
abbrev st_law_kinds : Stmt := top 38
abbrev N_law_kinds : List Str := ["_law_error", "_law_some", "_law_word", "_law_is_so"]
theorem sc_law_kinds : FnScope N_law_kinds ["_law_error"] (defScope st_law_kinds) := ⟨rfl, rfl, rfl, by decide +kernel, rfl, by decide +kernel, by decide +kernel⟩
def g_law_kinds : SF Exc :=
  (gSeq (gAsg 1 (oX (xO (xLst (xCons (xTup (xCons (xP (gC (.str "ground"))) (xCons (xIsE 0 [("BadLineup", false), ("BadRules", false)]) xNil))) (xCons (xTup (xCons (xP (gC (.str "trader"))) (xCons (xIsE 0 [("BadLineup", false), ("BadRules", false)]) xNil))) xNil))))))
  (gSeq (gAsg 1 (oX (xOp addA (xP (gVar 1)) (xO (xLst (xCons (xTup (xCons (xP (gC (.str "day"))) (xCons (xIsE 0 [("BadLineup", false), ("BadRules", false)]) xNil))) (xCons (xTup (xCons (xP (gC (.str "name"))) (xCons (xIsE 0 [("BadLineup", false), ("BadRules", false)]) xNil))) xNil)))))))
  (gSeq (gAsg 1 (oX (xOp addA (xP (gVar 1)) (xO (xLst (xCons (xTup (xCons (xP (gC (.str "pitch"))) (xCons (xIsE 0 [("BadLineup", false), ("BadRules", false)]) xNil))) (xCons (xTup (xCons (xP (gC (.str "deal"))) (xCons (xIsE 0 [("BadLineup", false), ("BadRules", false)]) xNil))) xNil)))))))
  (gSeq (gAsg 1 (oX (xOp addA (xP (gVar 1)) (xO (xLst (xCons (xTup (xCons (xP (gC (.str "paper"))) (xCons (xIsE 0 [("BadLineup", false), ("BadRules", false)]) xNil))) (xCons (xTup (xCons (xP (gC (.str "line"))) (xCons (xIsE 0 [("BadLineup", false), ("BadRules", false)]) xNil))) xNil)))))))
  (gSeq (gAsg 1 (oX (xOp addA (xP (gVar 1)) (xO (xLst (xCons (xTup (xCons (xP (gC (.str "rules"))) (xCons (xIsE 0 [("BadLineup", false), ("BadRules", true)]) xNil))) (xCons (xTup (xCons (xP (gC (.str "event"))) (xCons (xIsE 0 [("BadLineup", false), ("BadRules", false)]) xNil))) xNil)))))))
  (gSeq (gAsg 1 (oX (xOp addA (xP (gVar 1)) (xO (xLst (xCons (xTup (xCons (xP (gC (.str "twice"))) (xCons (xIsE 0 [("BadLineup", false), ("BadRules", false)]) xNil))) (xCons (xTup (xCons (xP (gC (.str "many"))) (xCons (xIsE 0 [("BadLineup", false), ("BadRules", false)]) xNil))) xNil)))))))
  (gSeq (gAsg 1 (oX (xOp addA (xP (gVar 1)) (xO (xLst (xCons (xTup (xCons (xP (gC (.str "mend"))) (xCons (xIsE 0 [("BadLineup", false), ("BadRules", false)]) xNil))) (xCons (xTup (xCons (xP (gC (.str "no event"))) (xCons (xIsE 0 [("BadLineup", false), ("BadRules", false)]) xNil))) xNil)))))))
  (gSeq (gAsg 1 (oX (xOp addA (xP (gVar 1)) (xO (xLst (xCons (xTup (xCons (xP (gC (.str "no day"))) (xCons (xIsE 0 [("BadLineup", false), ("BadRules", false)]) xNil))) (xCons (xTup (xCons (xP (gC (.str "lineup"))) (xCons (xIsE 0 [("BadLineup", true), ("BadRules", false)]) xNil))) xNil)))))))
  (gSeq (gAsg 1 (oX (xOp addA (xP (gVar 1)) (xO (xLst (xCons (xTup (xCons (xP (gC (.str "history"))) (xCons (xIsE 0 [("BadLineup", false), ("BadRules", false)]) xNil))) (xCons (xTup (xCons (xP (gC (.str "bare"))) (xCons (xNotV (xIsE 0 [("BadLineup", true), ("BadRules", true)])) xNil))) xNil)))))))
  (gRet (xLc (xSrc (xOp addA (xP (gVar 1)) (xO (xLst (xCons (xTup (xCons (xP (gC (.str "bare"))) (xCons (xNotV (xIsE 0 [("BadLineup", true), ("BadRules", true)])) xNil))) xNil))))) [2, 3] (asgT [2, 3]) (xtP (gTr (gVar 3))) (xP (gVar 2)))))))))))))
def F_law_kinds : Exc → List D → Option (MO Exc × Exc) := runS 4 g_law_kinds
theorem ok_law_kinds {P : Program} {w : World} {K : PySem.W.Frag} {mg : Str → Option Value} {f : Addr} {fd : FuncData} {c_BadGround : Addr} {c_BadLineup : Addr} {c_BadRules : Addr} {c_BadTrader : Addr} {c_BadDay : Addr} {c_BadName : Addr} {c_BadPitch : Addr} {c_BadDeal : Addr} {c_BadPaper : Addr} {c_BadLine : Addr} {c_BadEvent : Addr} {c_Twice : Addr} {c_TooMany : Addr} {c_BadMend : Addr} {c_NoEvent : Addr} {c_NoDay : Addr} {c_BadHistory : Addr} {c_MarketError : Addr} (Fn : Fun K "_law_kinds" "_law_kinds" st_law_kinds f fd) (m_ValueError : mg "ValueError" = none) (m_isinstance : mg "isinstance" = none) (x_BadGround : mg "BadGround" = some (.ref c_BadGround)) (x_BadLineup : mg "BadLineup" = some (.ref c_BadLineup)) (x_BadRules : mg "BadRules" = some (.ref c_BadRules)) (x_BadTrader : mg "BadTrader" = some (.ref c_BadTrader)) (x_BadDay : mg "BadDay" = some (.ref c_BadDay)) (x_BadName : mg "BadName" = some (.ref c_BadName)) (x_BadPitch : mg "BadPitch" = some (.ref c_BadPitch)) (x_BadDeal : mg "BadDeal" = some (.ref c_BadDeal)) (x_BadPaper : mg "BadPaper" = some (.ref c_BadPaper)) (x_BadLine : mg "BadLine" = some (.ref c_BadLine)) (x_BadEvent : mg "BadEvent" = some (.ref c_BadEvent)) (x_Twice : mg "Twice" = some (.ref c_Twice)) (x_TooMany : mg "TooMany" = some (.ref c_TooMany)) (x_BadMend : mg "BadMend" = some (.ref c_BadMend)) (x_NoEvent : mg "NoEvent" = some (.ref c_NoEvent)) (x_NoDay : mg "NoDay" = some (.ref c_NoDay)) (x_BadHistory : mg "BadHistory" = some (.ref c_BadHistory)) (x_MarketError : mg "MarketError" = some (.ref c_MarketError)) (T0 : IsTab K mg [.ref c_BadGround] [("BadLineup", false), ("BadRules", false)]) (T1 : IsTab K mg [.ref c_BadTrader] [("BadLineup", false), ("BadRules", false)]) (T2 : IsTab K mg [.ref c_BadDay] [("BadLineup", false), ("BadRules", false)]) (T3 : IsTab K mg [.ref c_BadName] [("BadLineup", false), ("BadRules", false)]) (T4 : IsTab K mg [.ref c_BadPitch] [("BadLineup", false), ("BadRules", false)]) (T5 : IsTab K mg [.ref c_BadDeal] [("BadLineup", false), ("BadRules", false)]) (T6 : IsTab K mg [.ref c_BadPaper] [("BadLineup", false), ("BadRules", false)]) (T7 : IsTab K mg [.ref c_BadLine] [("BadLineup", false), ("BadRules", false)]) (T8 : IsTab K mg [.ref c_BadRules] [("BadLineup", false), ("BadRules", true)]) (T9 : IsTab K mg [.ref c_BadEvent] [("BadLineup", false), ("BadRules", false)]) (T10 : IsTab K mg [.ref c_Twice] [("BadLineup", false), ("BadRules", false)]) (T11 : IsTab K mg [.ref c_TooMany] [("BadLineup", false), ("BadRules", false)]) (T12 : IsTab K mg [.ref c_BadMend] [("BadLineup", false), ("BadRules", false)]) (T13 : IsTab K mg [.ref c_NoEvent] [("BadLineup", false), ("BadRules", false)]) (T14 : IsTab K mg [.ref c_NoDay] [("BadLineup", false), ("BadRules", false)]) (T15 : IsTab K mg [.ref c_BadLineup] [("BadLineup", true), ("BadRules", false)]) (T16 : IsTab K mg [.ref c_BadHistory] [("BadLineup", false), ("BadRules", false)]) (T17 : IsTab K mg [.type "ValueError"] [("BadLineup", true), ("BadRules", true)]) (T18 : IsTab K mg [.ref c_MarketError] [("BadLineup", true), ("BadRules", true)]) :
    ∀ (base : Heap) (a : Addr) (oe : Obj) (cls : Value) (d : Option Addr), K.In base → base.Ns mainGlobals mg → base.get? a = some oe → Zc cls d oe → (∃ vs, oe.data = .fields vs) → FnG P w K mg base CX0 1 f fd ["_law_error"] (spS K (R1e K mg a cls d) 1 F_law_kinds) := fun base a oe cls d _ _ hbs hz hf => fn_S (k := 0) (N := N_law_kinds) (g := g_law_kinds) Fn sc_law_kinds fun cdv A outer s H E hr hgd => by
  have nd : N_law_kinds.Nodup := sc_law_kinds.nd
  unfold g_law_kinds
  exact (ss_seq (ss_set (by decide) nd rfl (Or.inl rfl) (eo_X (ex_O (eo_lst (ax_cons (ex_tup (ax_cons (ex_P ep_str) (ax_cons (ex_isE (c := .ref c_BadGround) (fun _ h => h) T0 hz hf (.inr hbs) (by rfl) m_isinstance (pv 0) (pe_glob (by rfl) x_BadGround rfl)) ax_nil))) (ax_cons (ex_tup (ax_cons (ex_P ep_str) (ax_cons (ex_isE (c := .ref c_BadTrader) (fun _ h => h) T1 hz hf (.inr hbs) (by rfl) m_isinstance (pv 0) (pe_glob (by rfl) x_BadTrader rfl)) ax_nil))) ax_nil))))))
  (ss_seq (ss_set (by decide) nd rfl (Or.inl rfl) (eo_X (ex_bin o_addA d_addA (ex_P (ep_var (pv 1))) (ex_O (eo_lst (ax_cons (ex_tup (ax_cons (ex_P ep_str) (ax_cons (ex_isE (c := .ref c_BadDay) (fun _ h => h) T2 hz hf (.inr hbs) (by rfl) m_isinstance (pv 0) (pe_glob (by rfl) x_BadDay rfl)) ax_nil))) (ax_cons (ex_tup (ax_cons (ex_P ep_str) (ax_cons (ex_isE (c := .ref c_BadName) (fun _ h => h) T3 hz hf (.inr hbs) (by rfl) m_isinstance (pv 0) (pe_glob (by rfl) x_BadName rfl)) ax_nil))) ax_nil)))))))
  (ss_seq (ss_set (by decide) nd rfl (Or.inl rfl) (eo_X (ex_bin o_addA d_addA (ex_P (ep_var (pv 1))) (ex_O (eo_lst (ax_cons (ex_tup (ax_cons (ex_P ep_str) (ax_cons (ex_isE (c := .ref c_BadPitch) (fun _ h => h) T4 hz hf (.inr hbs) (by rfl) m_isinstance (pv 0) (pe_glob (by rfl) x_BadPitch rfl)) ax_nil))) (ax_cons (ex_tup (ax_cons (ex_P ep_str) (ax_cons (ex_isE (c := .ref c_BadDeal) (fun _ h => h) T5 hz hf (.inr hbs) (by rfl) m_isinstance (pv 0) (pe_glob (by rfl) x_BadDeal rfl)) ax_nil))) ax_nil)))))))
  (ss_seq (ss_set (by decide) nd rfl (Or.inl rfl) (eo_X (ex_bin o_addA d_addA (ex_P (ep_var (pv 1))) (ex_O (eo_lst (ax_cons (ex_tup (ax_cons (ex_P ep_str) (ax_cons (ex_isE (c := .ref c_BadPaper) (fun _ h => h) T6 hz hf (.inr hbs) (by rfl) m_isinstance (pv 0) (pe_glob (by rfl) x_BadPaper rfl)) ax_nil))) (ax_cons (ex_tup (ax_cons (ex_P ep_str) (ax_cons (ex_isE (c := .ref c_BadLine) (fun _ h => h) T7 hz hf (.inr hbs) (by rfl) m_isinstance (pv 0) (pe_glob (by rfl) x_BadLine rfl)) ax_nil))) ax_nil)))))))
  (ss_seq (ss_set (by decide) nd rfl (Or.inl rfl) (eo_X (ex_bin o_addA d_addA (ex_P (ep_var (pv 1))) (ex_O (eo_lst (ax_cons (ex_tup (ax_cons (ex_P ep_str) (ax_cons (ex_isE (c := .ref c_BadRules) (fun _ h => h) T8 hz hf (.inr hbs) (by rfl) m_isinstance (pv 0) (pe_glob (by rfl) x_BadRules rfl)) ax_nil))) (ax_cons (ex_tup (ax_cons (ex_P ep_str) (ax_cons (ex_isE (c := .ref c_BadEvent) (fun _ h => h) T9 hz hf (.inr hbs) (by rfl) m_isinstance (pv 0) (pe_glob (by rfl) x_BadEvent rfl)) ax_nil))) ax_nil)))))))
  (ss_seq (ss_set (by decide) nd rfl (Or.inl rfl) (eo_X (ex_bin o_addA d_addA (ex_P (ep_var (pv 1))) (ex_O (eo_lst (ax_cons (ex_tup (ax_cons (ex_P ep_str) (ax_cons (ex_isE (c := .ref c_Twice) (fun _ h => h) T10 hz hf (.inr hbs) (by rfl) m_isinstance (pv 0) (pe_glob (by rfl) x_Twice rfl)) ax_nil))) (ax_cons (ex_tup (ax_cons (ex_P ep_str) (ax_cons (ex_isE (c := .ref c_TooMany) (fun _ h => h) T11 hz hf (.inr hbs) (by rfl) m_isinstance (pv 0) (pe_glob (by rfl) x_TooMany rfl)) ax_nil))) ax_nil)))))))
  (ss_seq (ss_set (by decide) nd rfl (Or.inl rfl) (eo_X (ex_bin o_addA d_addA (ex_P (ep_var (pv 1))) (ex_O (eo_lst (ax_cons (ex_tup (ax_cons (ex_P ep_str) (ax_cons (ex_isE (c := .ref c_BadMend) (fun _ h => h) T12 hz hf (.inr hbs) (by rfl) m_isinstance (pv 0) (pe_glob (by rfl) x_BadMend rfl)) ax_nil))) (ax_cons (ex_tup (ax_cons (ex_P ep_str) (ax_cons (ex_isE (c := .ref c_NoEvent) (fun _ h => h) T13 hz hf (.inr hbs) (by rfl) m_isinstance (pv 0) (pe_glob (by rfl) x_NoEvent rfl)) ax_nil))) ax_nil)))))))
  (ss_seq (ss_set (by decide) nd rfl (Or.inl rfl) (eo_X (ex_bin o_addA d_addA (ex_P (ep_var (pv 1))) (ex_O (eo_lst (ax_cons (ex_tup (ax_cons (ex_P ep_str) (ax_cons (ex_isE (c := .ref c_NoDay) (fun _ h => h) T14 hz hf (.inr hbs) (by rfl) m_isinstance (pv 0) (pe_glob (by rfl) x_NoDay rfl)) ax_nil))) (ax_cons (ex_tup (ax_cons (ex_P ep_str) (ax_cons (ex_isE (c := .ref c_BadLineup) (fun _ h => h) T15 hz hf (.inr hbs) (by rfl) m_isinstance (pv 0) (pe_glob (by rfl) x_BadLineup rfl)) ax_nil))) ax_nil)))))))
  (ss_seq (ss_set (by decide) nd rfl (Or.inl rfl) (eo_X (ex_bin o_addA d_addA (ex_P (ep_var (pv 1))) (ex_O (eo_lst (ax_cons (ex_tup (ax_cons (ex_P ep_str) (ax_cons (ex_isE (c := .ref c_BadHistory) (fun _ h => h) T16 hz hf (.inr hbs) (by rfl) m_isinstance (pv 0) (pe_glob (by rfl) x_BadHistory rfl)) ax_nil))) (ax_cons (ex_tup (ax_cons (ex_P ep_str) (ax_cons (ex_notV (ex_isE (c := .ty "ValueError") (fun _ h => h) T17 hz hf (.inr hbs) (by rfl) m_isinstance (pv 0) (pe_bltn (by rfl) m_ValueError (by decide +kernel) rfl))) ax_nil))) ax_nil)))))))
  (ss_one (ss_ret (eo_lc (own := [("_law_word", 2), ("_law_is_so", 3)]) (tgd_tup (is := [2, 3])) (own_tup (by decide)) rfl nd (xi_any (ex_bin o_addA d_addA (ex_P (ep_var (pv 1))) (ex_O (eo_lst (ax_cons (ex_tup (ax_cons (ex_P ep_str) (ax_cons (ex_notV (ex_isE (c := .ref c_MarketError) (fun _ h => h) T18 hz hf (.inr hbs) (by rfl) m_isinstance (pv 0) (pe_glob (by rfl) x_MarketError rfl))) ax_nil))) ax_nil))))) (blkOk_by (N := N_law_kinds) (sc := defScope st_law_kinds) (by decide +kernel)) (fun _ _ _ _ _ => (pg_tup rfl (pgs_cons (pg_name (i := 2) nd rfl (Or.inl rfl)) (pgs_cons (pg_name (i := 3) nd rfl (Or.inl rfl)) pgs_nil)))) (fun _ _ _ _ _ => (xts_one (xt_P (tp_tr (ep_var (pv 3)))))) (fun _ _ _ _ _ => (ex_P (ep_var (pv 2))))))))))))))))
abbrev st_law_said : Stmt := top 39
abbrev N_law_said : List Str := ["_law_deed", "_law_kept", "e"]
theorem sc_law_said : FnScope N_law_said ["_law_deed"] (defScope st_law_said) := ⟨rfl, rfl, rfl, by decide +kernel, rfl, by decide +kernel, by decide +kernel⟩
def g_law_said (q : Except Exc D) : SF Exc :=
  (gSeq (gAsg 1 (oX (xP (gC .none))))
  (gTryD ["BadLineup", "BadRules"] 2 1 none q
  (gRet (oX (xIf (xtNoneE 1) (xP (gC (.str ""))) (xOp joinD (xP (gC (.str " "))) (xO (xCallE 1 F_law_kinds))))))))
def F_law_said : Except Exc D → Option (MO St2) := runD 3 g_law_said
theorem ok_law_said {P : Program} {w : World} {K : PySem.W.Frag} {mg : Str → Option Value} {base : Heap} {f : Addr} {fd : FuncData} {c_MarketError : Addr} {c_BadLineup : Addr} {c_BadRules : Addr} (Fn : Fun K "_law_said" "_law_said" st_law_said f fd) (ce_law_kinds : ClE P w K mg 1 "_law_kinds" F_law_kinds) (x_MarketError : mg "MarketError" = some (.ref c_MarketError)) (x_BadLineup : mg "BadLineup" = some (.ref c_BadLineup)) (x_BadRules : mg "BadRules" = some (.ref c_BadRules)) (kn_ok : ∀ e ∈ (["BadLineup", "BadRules"] : List Str), ∃ C, mg e = some (.ref C) ∧ PySem.W.exmOne K (.ref C) (.ref c_MarketError) = some true) :
    FnD P w K mg base 5 f fd "_law_deed" F_law_said := fn_D (j := 5) (N := N_law_said) (gg := g_law_said) Fn sc_law_said fun q f G cdv A outer s H hr hgd hD => by
  have nd : N_law_said.Nodup := sc_law_said.nd
  unfold g_law_said
  exact (ss_seq (ss_set (by decide) nd rfl (Or.inl rfl) (eo_X (ex_P ep_non)))
  (ss_tryD (i := 2) (j := 1) rfl rfl nd rfl rfl ⟨by rfl, by decide +kernel, .inl x_MarketError⟩ kn_ok
  (fun W pn xe tk => sd_call (pe_deed hD rfl tk hr hgd (pv 0)))
  (fun a oe cls d pn => ss_set (by decide) nd rfl (Or.inl rfl) (eo_stV (pv 2)))
  (fun a oe cls d pn hz hf => (ss_one (ss_ret (eo_X (ex_if (xt_noneE (pv 1)) (ex_P ep_str) (ex_join (ex_P ep_str) (ex_O (eo_callE ce_law_kinds (by decide) hr hgd (by rfl) hz hf (.inl (List.mem_cons_self ..)) (pv 1)))))))))
  (ss_one (ss_ret (eo_X (ex_if (xt_noneE0 (pv 1)) (ex_P ep_str) (ex_join (ex_P ep_str) (ex_O eo_callE0))))))))
abbrev st_law_is_line : Stmt := top 40
abbrev N_law_is_line : List Str := ["_law_thing", "_law_ahead", "_law_pair", "_law_day", "_law_word"]
theorem sc_law_is_line : FnScope N_law_is_line ["_law_thing"] (defScope st_law_is_line) := ⟨rfl, rfl, rfl, by decide +kernel, rfl, by decide +kernel, by decide +kernel⟩
def g_law_is_line : SF St2 :=
  (gSeq (gIfS (xtP (gOr (gNot (gTr (gIsi "tuple" (gVar 0)))) (gB (gOp gtD (gCall (gCons (gVar 0) gNil) lenD) (gC (.int 2000))))))
  (gRet (oX (xP (gC (.bool false)))))
  gNext)
  (gSeq (gAsg 1 (oX (xP (gTup (gCons (gUn negD (gC (.int 1))) (gCons (gC (.str "told")) gNil))))))
  (gSeq (gFor (xiP (gSrc (gVar 0))) (asgN 2)
  (gSeq (gIfS (xtP (gOr (gNot (gTr (gIsi "tuple" (gVar 2)))) (gOr (gB (gOp neD (gCall (gCons (gVar 2) gNil) lenD) (gC (.int 2)))) (gNot (gTr (gIsi "str" (gOp ixD (gVar 2) (gC (.int 1)))))))))
  (gRet (oX (xP (gC (.bool false)))))
  gNext)
  (gSeq (gAsgT (asgT [3, 4]) (xP (gVar 2)))
  (gSeq (gIfS (xtP (gOr (gTr (gIsi "bool" (gVar 3))) (gOr (gNot (gTr (gIsi "int" (gVar 3)))) (gNot (gB (gChain leD leD (gC (.int 0)) (gVar 3) (gC (.int 9999))))))))
  (gRet (oX (xP (gC (.bool false)))))
  gNext)
  (gSeq (gIfS (xtP (gOr (gB (gOp ninD (gVar 4) (gTup (gCons (gC (.str "came")) (gCons (gC (.str "told")) (gCons (gC (.str "missed")) (gCons (gC (.str "given")) (gCons (gC (.str "struck")) gNil)))))))) (gOr (gB (gOp eqD (gOp ixD (gVar 1) (gC (.int 1))) (gC (.str "struck")))) (gB (gOp ltD (gVar 3) (gOp ixD (gVar 1) (gC (.int 0))))))))
  (gRet (oX (xP (gC (.bool false)))))
  gNext)
  (gSeq (gIfS (xtP (gAnd (gB (gOp eqD (gVar 3) (gOp ixD (gVar 1) (gC (.int 0))))) (gOr (gB (gOp neD (gOp ixD (gVar 1) (gC (.int 1))) (gC (.str "given")))) (gB (gOp eqD (gVar 4) (gC (.str "given")))))))
  (gRet (oX (xP (gC (.bool false)))))
  gNext)
  (gAsg 1 (oX (xP (gVar 2))))))))))
  (gRet (oX (xP (gC (.bool true))))))))
def F_law_is_line : List D → Option (MO St2) := runP 5 g_law_is_line
theorem ok_law_is_line {P : Program} {w : World} {K : PySem.W.Frag} {mg : Str → Option Value} {base : Heap} {f : Addr} {fd : FuncData} (Fn : Fun K "_law_is_line" "_law_is_line" st_law_is_line f fd) (m_bool : mg "bool" = none) (m_int : mg "int" = none) (m_isinstance : mg "isinstance" = none) (m_len : mg "len" = none) (m_str : mg "str" = none) (m_tuple : mg "tuple" = none) :
    FnG P w K mg base CX0 1 f fd ["_law_thing"] (spP K R2i 1 F_law_is_line) := fn_P (k := 0) (N := N_law_is_line) (g := g_law_is_line) Fn sc_law_is_line fun cdv A outer s H E hr hgd => by
  have nd : N_law_is_line.Nodup := sc_law_is_line.nd
  unfold g_law_is_line
  exact (ss_seq (ss_if (xt_P (PW.pt (tw_or (tp_not (tp_tr (ep_isi (v2 := .none) (by rfl) m_isinstance (ep_var (pv 0)) (pe_bltn (by rfl) m_tuple (by decide +kernel) rfl)))) (tw_or1 (tp_cmp o_gt d_gt (ep_cb call_len d_len (by rfl) m_len (by decide +kernel) (ap_cons (ep_var (pv 0)) ap_nil)) ep_int rfl)))))
  (ss_one (ss_ret (eo_X (ex_P ep_bl))))
  ss_nil)
  (ss_seq (ss_set (by decide) nd rfl (Or.inl rfl) (eo_X (ex_P (ep_tup (ap_cons (ep_un un_neg d_neg ep_int) (ap_cons ep_str ap_nil))))))
  (ss_seq (ss_for tgd_name (notin_own (own := [2]) (own_name (by decide)) (by decide)) rfl (xi_P (pi_any (ep_var (pv 0)))) (pg_name (i := 2) nd rfl (Or.inl rfl))
  (ss_seq (ss_if (xt_P (PW.pt (tw_or (tp_not (tp_tr (ep_isi (v2 := .none) (by rfl) m_isinstance (ep_var (pv 2)) (pe_bltn (by rfl) m_tuple (by decide +kernel) rfl)))) (tw_or (tp_cmp (o_ne (room_u hr (by decide))) d_ne (ep_cb call_len d_len (by rfl) m_len (by decide +kernel) (ap_cons (ep_var (pv 2)) ap_nil)) ep_int rfl) (tw_or1 (tp_not (tp_tr (ep_isi (v2 := .none) (by rfl) m_isinstance (ep_ix ix_seq d_ix (ep_var (pv 2)) ep_int (fun _ _ => rfl)) (pe_bltn (by rfl) m_str (by decide +kernel) rfl)))))))))
  (ss_one (ss_ret (eo_X (ex_P ep_bl))))
  ss_nil)
  (ss_seq (ss_asgT (tgd_tup (is := [3, 4])) (notin_own (own := [3, 4]) (own_tup (by decide)) (by decide)) (ex_P (ep_var (pv 2))) (pg_tup rfl (pgs_cons (pg_name (i := 3) nd rfl (Or.inl rfl)) (pgs_cons (pg_name (i := 4) nd rfl (Or.inl rfl)) pgs_nil))))
  (ss_seq (ss_if (xt_P (PW.pt (tw_or (tp_tr (ep_isi (v2 := .none) (by rfl) m_isinstance (ep_var (pv 3)) (pe_bltn (by rfl) m_bool (by decide +kernel) rfl))) (tw_or (tp_not (tp_tr (ep_isi (v2 := .none) (by rfl) m_isinstance (ep_var (pv 3)) (pe_bltn (by rfl) m_int (by decide +kernel) rfl)))) (tw_or1 (tp_not (tp_chain o_le d_le o_le d_le ep_int (ep_var (pv 3)) ep_int)))))))
  (ss_one (ss_ret (eo_X (ex_P ep_bl))))
  ss_nil)
  (ss_seq (ss_if (xt_P (PW.pt (tw_or (tp_cmp (o_nin (room_u hr (by decide))) d_nin (ep_var (pv 4)) (ep_tup (ap_cons ep_str (ap_cons ep_str (ap_cons ep_str (ap_cons ep_str (ap_cons ep_str ap_nil)))))) rfl) (tw_or (tp_cmp (o_eq (room_u hr (by decide))) d_eq (ep_ix ix_seq d_ix (ep_var (pv 1)) ep_int (fun _ _ => rfl)) ep_str rfl) (tw_or1 (tp_cmp o_lt d_lt (ep_var (pv 3)) (ep_ix ix_seq d_ix (ep_var (pv 1)) ep_int (fun _ _ => rfl)) rfl))))))
  (ss_one (ss_ret (eo_X (ex_P ep_bl))))
  ss_nil)
  (ss_seq (ss_if (xt_P (PW.pt (tw_and (tp_cmp (o_eq (room_u hr (by decide))) d_eq (ep_var (pv 3)) (ep_ix ix_seq d_ix (ep_var (pv 1)) ep_int (fun _ _ => rfl)) rfl) (tw_and1 (PW.pt (tw_or (tp_cmp (o_ne (room_u hr (by decide))) d_ne (ep_ix ix_seq d_ix (ep_var (pv 1)) ep_int (fun _ _ => rfl)) ep_str rfl) (tw_or1 (tp_cmp (o_eq (room_u hr (by decide))) d_eq (ep_var (pv 4)) ep_str rfl))))))))
  (ss_one (ss_ret (eo_X (ex_P ep_bl))))
  ss_nil)
  (ss_one (ss_set (by decide) nd rfl (Or.inl rfl) (eo_X (ex_P (ep_var (pv 2))))))))))))
  (ss_one (ss_ret (eo_X (ex_P ep_bl)))))))
abbrev st_law_line : Stmt := top 41
abbrev N_law_line : List Str := ["_law_state_here", "_law_many", "_law_found", "_law_day", "_law_k"]
theorem sc_law_line : FnScope N_law_line ["_law_state_here", "_law_many"] (defScope st_law_line) := ⟨rfl, rfl, rfl, by decide +kernel, rfl, by decide +kernel, by decide +kernel⟩
def g_law_line : SF St2 :=
  (gSeq (gPar2 2 3 (oCons (oP (gLst gNil)) (oCons (oX (xO (oCallV 2 0 F_law_next (xCons (xP (gC (.int 9))) xNil)))) oNil)))
  (gSeq (gFor (xiP (gArgs (gCons (gVar 1) gNil) rng1)) (asgN 4)
  (gSeq (gDrop (xMt 2 appD (xCons (xTup (xCons (xP (gVar 3)) (xCons (xOp ixD (xP (gL (gLst (gCons (gC (.str "came")) (gCons (gC (.str "told")) (gCons (gC (.str "missed")) (gCons (gC (.str "given")) (gCons (gC (.str "came")) (gCons (gC (.str "struck")) gNil))))))))) (xO (oCallV 2 0 F_law_next (xCons (xP (gC (.int 6))) xNil)))) xNil))) xNil)))
  (gAsg 3 (oX (xOp addA (xP (gVar 3)) (xOp ixD (xP (gL (gLst (gCons (gC (.int 1)) (gCons (gC (.int 0)) (gCons (gC (.int 1)) (gCons (gC (.int 2)) (gCons (gC (.int 700)) gNil)))))))) (xO (oCallV 2 0 F_law_next (xCons (xP (gC (.int 5))) xNil)))))))))
  (gRet (oX (xB (gCall (gCons (gVar 2) gNil) tupleD))))))
def F_law_line : List (Key × D) → List D → Option (MO St2 × List (Key × D)) := runV 5 g_law_line
theorem ok_law_line {P : Program} {w : World} {K : PySem.W.Frag} {mg : Str → Option Value} {base : Heap} {f : Addr} {fd : FuncData} (Fn : Fun K "_law_line" "_law_line" st_law_line f fd) (c_law_next : Cl P w K mg base 1 "_law_next" (spV K R2i 2 F_law_next)) (m_range : mg "range" = none) (m_tuple : mg "tuple" = none) :
    FnG P w K mg base CX0 2 f fd ["_law_state_here", "_law_many"] (spV K R2i 2 F_law_line) := fn_V (k := 1) (N := N_law_line) (g := g_law_line) Fn sc_law_line fun cdv A outer s H E hr hgd => by
  have nd : N_law_line.Nodup := sc_law_line.nd
  unfold g_law_line
  exact (ss_seq (ss_par2 (i := 2) (j := 3) (by decide) (by decide) rfl nd rfl rfl (by decide) rfl rfl (ao_cons (eo_P (ef_lst ap_nil)) (ao_cons (eo_X (ex_O (co_callV c_law_next (by decide) hr hgd (by rfl) (pv 0) (ax_cons (ex_P ep_int) ax_nil)))) ao_nil)) rfl)
  (ss_seq (ss_for tgd_name (notin_own (own := [4]) (own_name (by decide)) (by decide)) rfl (xi_P (pi_r1 (by rfl) m_range (ap_cons (ep_var (pv 1)) ap_nil))) (pg_name (i := 4) nd rfl (Or.inl rfl))
  (ss_seq (ss_drop (ex_app (pv 2) (ax_cons (ex_tup (ax_cons (ex_P (ep_var (pv 3))) (ax_cons (ex_ix ix_seq d_ix (ex_P (ep_f (ef_lst (ap_cons ep_str (ap_cons ep_str (ap_cons ep_str (ap_cons ep_str (ap_cons ep_str (ap_cons ep_str ap_nil))))))))) (ex_O (co_callV c_law_next (by decide) hr hgd (by rfl) (pv 0) (ax_cons (ex_P ep_int) ax_nil))) (fun _ _ => rfl)) ax_nil))) ax_nil)))
  (ss_one (ss_set (by decide) nd rfl (Or.inl rfl) (eo_X (ex_bin o_addA d_addA (ex_P (ep_var (pv 3))) (ex_ix ix_seq d_ix (ex_P (ep_f (ef_lst (ap_cons ep_int (ap_cons ep_int (ap_cons ep_int (ap_cons ep_int (ap_cons ep_int ap_nil)))))))) (ex_O (co_callV c_law_next (by decide) hr hgd (by rfl) (pv 0) (ax_cons (ex_P ep_int) ax_nil))) (fun _ _ => rfl))))))))
  (ss_one (ss_ret (eo_X (ex_B (ep_ct call_tupF d_tuple (by rfl) m_tuple (by decide +kernel) (ap_cons (ep_var (pv 2)) ap_nil))))))))
abbrev st_law_odd : Stmt := top 42
abbrev N_law_odd : List Str := ["_law_state_here", "_law_some"]
theorem sc_law_odd : FnScope N_law_odd ["_law_state_here"] (defScope st_law_odd) := ⟨rfl, rfl, rfl, by decide +kernel, rfl, by decide +kernel, by decide +kernel⟩
def g_law_odd : SF St2 :=
  (gSeq (gAsg 1 (oX (xP (gL (gLst (gCons (gC .none) (gCons (gC (.bool true)) (gCons (gC (.bool false)) (gCons (gC (.int 0)) (gCons (gC (.int 5)) (gCons (gUn negD (gC (.int 1))) (gCons (gC (.int 9999)) (gCons (gC (.int 10000)) (gCons (gOp powD (gC (.int 10)) (gC (.int 30))) (gCons (gC (.str "came")) (gCons (gC (.str "told")) (gCons (gC (.str "missed")) (gCons (gC (.str "given")) (gCons (gC (.str "struck")) (gCons (gC (.str "home")) (gCons (gC (.str "")) gNil)))))))))))))))))))))
  (gSeq (gAsg 1 (oX (xP (gOp addA (gVar 1) (gL (gLst (gCons (gC (.str "earned")) (gCons (gC (.str "Came")) (gCons (gC (.str "came ")) (gCons (gC (.str "5")) (gCons (gTup gNil) (gCons (gL (gLst gNil)) (gCons (gC (.dict [])) (gCons (gTup (gCons (gC (.int 5)) (gCons (gC (.str "came")) gNil))) (gCons (gL (gLst (gCons (gC (.int 5)) (gCons (gC (.str "came")) gNil)))) (gCons (gTup (gCons (gC (.int 5)) gNil)) (gCons (gTup (gCons (gC (.str "came")) (gCons (gC (.int 5)) gNil))) gNil)))))))))))))))))
  (gRet (oX (xOp ixD (xP (gVar 1)) (xO (oCallV 2 0 F_law_next (xCons (xP (gCall (gCons (gVar 1) gNil) lenD)) xNil))))))))
def F_law_odd : List (Key × D) → List D → Option (MO St2 × List (Key × D)) := runV 2 g_law_odd
theorem ok_law_odd {P : Program} {w : World} {K : PySem.W.Frag} {mg : Str → Option Value} {base : Heap} {f : Addr} {fd : FuncData} (Fn : Fun K "_law_odd" "_law_odd" st_law_odd f fd) (c_law_next : Cl P w K mg base 1 "_law_next" (spV K R2i 2 F_law_next)) (m_len : mg "len" = none) :
    FnG P w K mg base CX0 2 f fd ["_law_state_here"] (spV K R2i 1 F_law_odd) := fn_V (k := 1) (N := N_law_odd) (g := g_law_odd) Fn sc_law_odd fun cdv A outer s H E hr hgd => by
  have nd : N_law_odd.Nodup := sc_law_odd.nd
  unfold g_law_odd
  exact (ss_seq (ss_set (by decide) nd rfl (Or.inl rfl) (eo_X (ex_P (ep_f (ef_lst (ap_cons ep_non (ap_cons ep_bl (ap_cons ep_bl (ap_cons ep_int (ap_cons ep_int (ap_cons (ep_un un_neg d_neg ep_int) (ap_cons ep_int (ap_cons ep_int (ap_cons (ep_bin op_pow d_pow ep_int ep_int) (ap_cons ep_str (ap_cons ep_str (ap_cons ep_str (ap_cons ep_str (ap_cons ep_str (ap_cons ep_str (ap_cons ep_str ap_nil)))))))))))))))))))))
  (ss_seq (ss_set (by decide) nd rfl (Or.inl rfl) (eo_X (ex_P (ep_bin o_addA d_addA (ep_var (pv 1)) (ep_f (ef_lst (ap_cons ep_str (ap_cons ep_str (ap_cons ep_str (ap_cons ep_str (ap_cons (ep_tup ap_nil) (ap_cons (ep_f (ef_lst ap_nil)) (ap_cons ep_emp (ap_cons (ep_tup (ap_cons ep_int (ap_cons ep_str ap_nil))) (ap_cons (ep_f (ef_lst (ap_cons ep_int (ap_cons ep_str ap_nil)))) (ap_cons (ep_tup (ap_cons ep_int ap_nil)) (ap_cons (ep_tup (ap_cons ep_str (ap_cons ep_int ap_nil))) ap_nil)))))))))))))))))
  (ss_one (ss_ret (eo_X (ex_ix ix_seq d_ix (ex_P (ep_var (pv 1))) (ex_O (co_callV c_law_next (by decide) hr hgd (by rfl) (pv 0) (ax_cons (ex_P (ep_cb call_len d_len (by rfl) m_len (by decide +kernel) (ap_cons (ep_var (pv 1)) ap_nil))) ax_nil))) (fun _ _ => rfl)))))))
abbrev st_law_bent : Stmt := top 43
abbrev N_law_bent : List Str := ["_law_state_here", "_law_thing", "_law_way", "_law_at", "_law_some"]
theorem sc_law_bent : FnScope N_law_bent ["_law_state_here", "_law_thing"] (defScope st_law_bent) := ⟨rfl, rfl, rfl, by decide +kernel, rfl, by decide +kernel, by decide +kernel⟩
def g_law_bent (Fr : List (Key × D) → List D → Option (MO St2 × List (Key × D))) : SF St2 :=
  (gSeq (gAsg 2 (oX (xO (oCallV 2 0 F_law_next (xCons (xP (gC (.int 8))) xNil)))))
  (gSeq (gIfS (xtP (gOr (gNot (gTr (gIsi "tuple" (gVar 1)))) (gB (gOp eqD (gVar 2) (gC (.int 0))))))
  (gRet (oCallV 1 0 F_law_odd xNil))
  gNext)
  (gSeq (gIfS (xtP (gAnd (gB (gOp neT0 (gVar 1) (gTup gNil))) (gB (gOp ltD (gVar 2) (gC (.int 5))))))
  (gSeq (gAsg 3 (oX (xO (oCallV 2 0 F_law_next (xCons (xP (gCall (gCons (gVar 1) gNil) lenD)) xNil)))))
  (gRet (oX (xOp addA (xOp addA (xP (gSlA (gVar 1) gNoPart (gPart (gVar 3)))) (xTup (xCons (xO (oCallV 2 0 Fr (xCons (xP (gOp ixD (gVar 1) (gVar 3))) xNil))) xNil))) (xP (gSlA (gVar 1) (gPart (gOp addA (gVar 3) (gC (.int 1)))) gNoPart))))))
  gNext)
  (gSeq (gAsg 3 (oX (xO (oCallV 2 0 F_law_next (xCons (xP (gOp addA (gCall (gCons (gVar 1) gNil) lenD) (gC (.int 1)))) xNil)))))
  (gSeq (gAsg 4 (oX (xO (xLst (xCons (xP (gL (gArgs (gCons (gVar 1) gNil) listD))) (xCons (xP (gOp addA (gSlA (gVar 1) gNoPart (gPart (gVar 3))) (gSlA (gVar 1) (gPart (gOp addA (gVar 3) (gC (.int 1)))) gNoPart))) (xCons (xP (gOp addA (gVar 1) (gSlA (gVar 1) (gPart (gUn negD (gC (.int 1)))) gNoPart))) (xCons (xP (gRevT (gVar 1))) (xCons (xOp addA (xP (gVar 1)) (xTup (xCons (xO (oCallV 1 0 F_law_odd xNil)) xNil))) xNil)))))))))
  (gRet (oX (xOp ixD (xP (gVar 4)) (xO (oCallV 2 0 F_law_next (xCons (xP (gC (.int 5))) xNil)))))))))))
def g_law_bent0 : SF St2 := (gSeq gUndef (gSeq gUndef (gSeq gUndef (gSeq gUndef (gSeq gUndef gUndef)))))
def FR_law_bent : Nat → List (Key × D) → List D → Option (MO St2 × List (Key × D))
  | 0 => runV 5 g_law_bent0
  | n + 1 => runV 5 (g_law_bent (FR_law_bent n))
def F_law_bent : List (Key × D) → List D → Option (MO St2 × List (Key × D)) := FR_law_bent 7
theorem ok0_law_bent {P : Program} {w : World} {K : PySem.W.Frag} {mg : Str → Option Value} {base : Heap} {f : Addr} {fd : FuncData} (Fn : Fun K "_law_bent" "_law_bent" st_law_bent f fd) :
    FnG P w K mg base CX0 1 f fd ["_law_state_here", "_law_thing"] (spV K R2i 2 (FR_law_bent 0)) := fn_V (k := 0) (N := N_law_bent) (g := g_law_bent0) Fn sc_law_bent fun cdv A outer s H E hr hgd => by
  have nd : N_law_bent.Nodup := sc_law_bent.nd
  unfold g_law_bent0
  exact (ss_seq ss_undef (ss_seq ss_undef (ss_seq ss_undef (ss_seq ss_undef (ss_seq ss_undef (ss_one ss_undef))))))
theorem okr_law_bent {P : Program} {w : World} {K : PySem.W.Frag} {mg : Str → Option Value} {base : Heap} {f : Addr} {fd : FuncData} {j : Nat} {Fr : List (Key × D) → List D → Option (MO St2 × List (Key × D))} (Fn : Fun K "_law_bent" "_law_bent" st_law_bent f fd) (c_law_next : Cl P w K mg base 1 "_law_next" (spV K R2i 2 F_law_next)) (c_law_odd : Cl P w K mg base 2 "_law_odd" (spV K R2i 1 F_law_odd)) (m_isinstance : mg "isinstance" = none) (m_len : mg "len" = none) (m_list : mg "list" = none) (m_tuple : mg "tuple" = none) (hj : 2 ≤ j) (c_self : Cl P w K mg base j "_law_bent" (spV K R2i 2 Fr)) :
    FnG P w K mg base CX0 (j + 1) f fd ["_law_state_here", "_law_thing"] (spV K R2i 2 (runV 5 (g_law_bent Fr))) := fn_V (k := j) (N := N_law_bent) (g := g_law_bent Fr) Fn sc_law_bent fun cdv A outer s H E hr hgd => by
  have nd : N_law_bent.Nodup := sc_law_bent.nd
  unfold g_law_bent
  exact (ss_seq (ss_set (by decide) nd rfl (Or.inl rfl) (eo_X (ex_O (co_callV c_law_next (Nat.le_trans (by decide) hj) hr hgd (by rfl) (pv 0) (ax_cons (ex_P ep_int) ax_nil)))))
  (ss_seq (ss_if (xt_P (PW.pt (tw_or (tp_not (tp_tr (ep_isi (v2 := .none) (by rfl) m_isinstance (ep_var (pv 1)) (pe_bltn (by rfl) m_tuple (by decide +kernel) rfl)))) (tw_or1 (tp_cmp (o_eq (room_u hr (by decide))) d_eq (ep_var (pv 2)) ep_int rfl)))))
  (ss_one (ss_ret (co_callV c_law_odd (Nat.le_trans (by decide) hj) hr hgd (by rfl) (pv 0) ax_nil)))
  ss_nil)
  (ss_seq (ss_if (xt_P (PW.pt (tw_and (tp_cmp (o_neT0 (room_u hr (by decide))) d_neT0 (ep_var (pv 1)) (ep_tup ap_nil) rfl) (tw_and1 (tp_cmp o_lt d_lt (ep_var (pv 2)) ep_int rfl)))))
  (ss_seq (ss_set (by decide) nd rfl (Or.inl rfl) (eo_X (ex_O (co_callV c_law_next (Nat.le_trans (by decide) hj) hr hgd (by rfl) (pv 0) (ax_cons (ex_P (ep_cb call_len d_len (by rfl) m_len (by decide +kernel) (ap_cons (ep_var (pv 1)) ap_nil))) ax_nil)))))
  (ss_one (ss_ret (eo_X (ex_bin o_addA d_addA (ex_bin o_addA d_addA (ex_P (ep_slA (ep_var (pv 1)) op_no (op_part (ep_var (pv 3))))) (ex_tup (ax_cons (ex_O (co_callV c_self (Nat.le_refl _) hr hgd (by rfl) (pv 0) (ax_cons (ex_P (ep_ix ix_seq d_ix (ep_var (pv 1)) (ep_var (pv 3)) (fun _ _ => rfl))) ax_nil))) ax_nil))) (ex_P (ep_slA (ep_var (pv 1)) (op_part (ep_bin o_addA d_addA (ep_var (pv 3)) ep_int)) op_no)))))))
  ss_nil)
  (ss_seq (ss_set (by decide) nd rfl (Or.inl rfl) (eo_X (ex_O (co_callV c_law_next (Nat.le_trans (by decide) hj) hr hgd (by rfl) (pv 0) (ax_cons (ex_P (ep_bin o_addA d_addA (ep_cb call_len d_len (by rfl) m_len (by decide +kernel) (ap_cons (ep_var (pv 1)) ap_nil)) ep_int)) ax_nil)))))
  (ss_seq (ss_set (by decide) nd rfl (Or.inl rfl) (eo_X (ex_O (eo_lst (ax_cons (ex_P (ep_f (ef_ct call_list_of d_list (by rfl) m_list (by decide +kernel) (ap_cons (ep_var (pv 1)) ap_nil)))) (ax_cons (ex_P (ep_bin o_addA d_addA (ep_slA (ep_var (pv 1)) op_no (op_part (ep_var (pv 3)))) (ep_slA (ep_var (pv 1)) (op_part (ep_bin o_addA d_addA (ep_var (pv 3)) ep_int)) op_no))) (ax_cons (ex_P (ep_bin o_addA d_addA (ep_var (pv 1)) (ep_slA (ep_var (pv 1)) (op_part (ep_un un_neg d_neg ep_int)) op_no))) (ax_cons (ex_P (ep_revT (ep_var (pv 1)))) (ax_cons (ex_bin o_addA d_addA (ex_P (ep_var (pv 1))) (ex_tup (ax_cons (ex_O (co_callV c_law_odd (Nat.le_trans (by decide) hj) hr hgd (by rfl) (pv 0) ax_nil)) ax_nil))) ax_nil)))))))))
  (ss_one (ss_ret (eo_X (ex_ix ix_seq d_ix (ex_P (ep_var (pv 4))) (ex_O (co_callV c_law_next (Nat.le_trans (by decide) hj) hr hgd (by rfl) (pv 0) (ax_cons (ex_P ep_int) ax_nil))) (fun _ _ => rfl))))))))))
theorem cl_law_bent {P : Program} {w : World} {K : PySem.W.Frag} {mg : Str → Option Value} {base : Heap} {f : Addr} {fd : FuncData} (Fn : Fun K "_law_bent" "_law_bent" st_law_bent f fd) (hb : Binds K fd ["_law_state_here", "_law_thing"] []) (hk : PySem.W.keepIn K (.ref f) = true) (hm : mg "_law_bent" = some (.ref f)) (c_law_next : Cl P w K mg base 1 "_law_next" (spV K R2i 2 F_law_next)) (c_law_odd : Cl P w K mg base 2 "_law_odd" (spV K R2i 1 F_law_odd)) (m_isinstance : mg "isinstance" = none) (m_len : mg "len" = none) (m_list : mg "list" = none) (m_tuple : mg "tuple" = none) : ∀ n, Cl P w K mg base (n + 2 + 1) "_law_bent" (spV K R2i 2 (FR_law_bent n))
  | 0 => ⟨f, fd, _, (ok0_law_bent Fn).up (by decide), hb, hk, hm⟩
  | n + 1 => ⟨f, fd, _, (okr_law_bent Fn c_law_next c_law_odd m_isinstance m_len m_list m_tuple (by omega) (cl_law_bent Fn hb hk hm c_law_next c_law_odd m_isinstance m_len m_list m_tuple n)).up (by omega), hb, hk, hm⟩
abbrev st_law_right : Stmt := top 44
abbrev N_law_right : List Str := ["_law_thing", "_law_due"]
theorem sc_law_right : FnScope N_law_right ["_law_thing"] (defScope st_law_right) := ⟨rfl, rfl, rfl, by decide +kernel, rfl, by decide +kernel, by decide +kernel⟩
def g_law_right : SF St2 :=
  (gSeq (gAsg 1 (oX (xP (gIf (gTr (gCallP 1 F_law_is_line (gCons (gVar 0) gNil))) (gC (.str "")) (gC (.str "lineup"))))))
  (gSeq (gIfS (xtP (gB (gOp neD (gDeed (eCall 1 FX_need_line (xCons (xP (gVar 0)) xNil)) F_law_said) (gVar 1))))
  (gRet (oX (xP (gC (.bool false)))))
  gNext)
  (gSeq (gIfS (xtP (gAnd (gB (gOp neD (gVar 1) (gC (.str "")))) (gB (gOp neD (gDeed (eCall 2 FX_rows_by (xCons (xP (gTup (gCons (gC (.int 1)) (gCons (gC (.int 1)) (gCons (gC (.int 1)) (gCons (gC (.int 0)) gNil)))))) (xCons (xP (gVar 0)) xNil))) F_law_said) (gVar 1)))))
  (gRet (oX (xP (gC (.bool false)))))
  gNext)
  (gRet (oX (xP (gOp eqD (gDeed (eCall 2 FX_rows_by (xCons (xP (gTup (gCons (gC (.int 2)) (gCons (gC (.int 1)) (gCons (gC (.int 1)) (gCons (gC (.int 0)) gNil)))))) (xCons (xP (gVar 0)) xNil))) F_law_said) (gC (.str "rules")))))))))
def F_law_right : List D → Option (MO St2) := runP 2 g_law_right
theorem ok_law_right {P : Program} {w : World} {K : PySem.W.Frag} {mg : Str → Option Value} {base : Heap} {f : Addr} {fd : FuncData} {lc lP : Addr} (Fn : Fun K "_law_right" "_law_right" st_law_right f fd) (c_law_is_line : Cl P w K mg base 1 "_law_is_line" (spP K R2i 1 F_law_is_line)) (cx_need_line : ClX P w K R2i mg base 3 "need_line" 1 FX_need_line) (cx_rows_by : ClX P w K R2i mg base 4 "rows_by" 2 FX_rows_by) (cd_law_said : ClD P w K mg base 5 "_law_said" F_law_said) (hlc : fd.code = .ref lc) (TB : LamX.TabB base mg lc lP) (hmT : (lP, lamQ "_law_right") ∈ TabL.T) (hu : ∀ p ∈ TabL.T, p.1 = lP → p.2 = lamQ "_law_right") :
    FnG P w K mg base CX0 7 f fd ["_law_thing"] (spP K R2i 1 F_law_right) := fn_Pc (k := 6) (N := N_law_right) (g := g_law_right) Fn sc_law_right fun cdv hcv A outer s H E hr hgd => by
  have nd : N_law_right.Nodup := sc_law_right.nd
  unfold g_law_right
  exact (ss_seq (ss_set (by decide) nd rfl (Or.inl rfl) (eo_X (ex_P (ep_if (tp_tr (cp_call c_law_is_line (by decide) hr hgd (by rfl) (ap_cons (ep_var (pv 0)) ap_nil))) ep_str ep_str))))
  (ss_seq (ss_if (xt_P (tp_cmp (o_ne (room_u hr (by decide))) d_ne (ep_deed (j := 4) cd_law_said (by rfl) TB (hcv.symm.trans hlc) hmT hu (by decide) hr hgd (LamX.lamS_by (sc := defScope st_law_right) (by decide +kernel)) rfl (fun _ _ _ _ _ => rfl) (fun A outer s H E f c2 hr hgd tk => (xe_call cx_need_line (by decide) hr hgd (by rfl) tk (ax_cons (ex_P (ep_var (pv 0))) ax_nil)))) (ep_var (pv 1)) rfl))
  (ss_one (ss_ret (eo_X (ex_P ep_bl))))
  ss_nil)
  (ss_seq (ss_if (xt_P (PW.pt (tw_and (tp_cmp (o_ne (room_u hr (by decide))) d_ne (ep_var (pv 1)) ep_str rfl) (tw_and1 (tp_cmp (o_ne (room_u hr (by decide))) d_ne (ep_deed (j := 4) cd_law_said (by rfl) TB (hcv.symm.trans hlc) hmT hu (by decide) hr hgd (LamX.lamS_by (sc := defScope st_law_right) (by decide +kernel)) rfl (fun _ _ _ _ _ => rfl) (fun A outer s H E f c2 hr hgd tk => (xe_call cx_rows_by (by decide) hr hgd (by rfl) tk (ax_cons (ex_P (ep_tup (ap_cons ep_int (ap_cons ep_int (ap_cons ep_int (ap_cons ep_int ap_nil)))))) (ax_cons (ex_P (ep_var (pv 0))) ax_nil))))) (ep_var (pv 1)) rfl)))))
  (ss_one (ss_ret (eo_X (ex_P ep_bl))))
  ss_nil)
  (ss_one (ss_ret (eo_X (ex_P (ep_cmp (o_eq (room_u hr (by decide))) d_eq (ep_deed (j := 4) cd_law_said (by rfl) TB (hcv.symm.trans hlc) hmT hu (by decide) hr hgd (LamX.lamS_by (sc := defScope st_law_right) (by decide +kernel)) rfl (fun _ _ _ _ _ => rfl) (fun A outer s H E f c2 hr hgd tk => (xe_call cx_rows_by (by decide) hr hgd (by rfl) tk (ax_cons (ex_P (ep_tup (ap_cons ep_int (ap_cons ep_int (ap_cons ep_int (ap_cons ep_int ap_nil)))))) (ax_cons (ex_P (ep_var (pv 0))) ax_nil))))) ep_str rfl))))))))
abbrev st_law_bounds_right : Stmt := top 45
abbrev N_law_bounds_right : List Str := ["_law_some", "_law_more", "_law_words", "_law_one", "_law_other", "_law_day"]
theorem sc_law_bounds_right : FnScope N_law_bounds_right [] (defScope st_law_bounds_right) := ⟨rfl, rfl, rfl, by decide +kernel, rfl, by decide +kernel, by decide +kernel⟩
def g_law_bounds_right : SF St2 :=
  (gSeq (gAsg 0 (oP (gLst (gCons (gTup gNil) (gCons (gTup (gCons (gTup (gCons (gC (.int 0)) (gCons (gC (.str "came")) gNil))) (gCons (gTup (gCons (gC (.int 9999)) (gCons (gC (.str "came")) gNil))) gNil))) (gCons (gTup (gCons (gTup (gCons (gC (.int 0)) (gCons (gC (.str "came")) gNil))) (gCons (gTup (gCons (gC (.int 10000)) (gCons (gC (.str "came")) gNil))) gNil))) (gCons (gTup (gCons (gTup (gCons (gUn negD (gC (.int 1))) (gCons (gC (.str "came")) gNil))) gNil)) (gCons (gTup (gCons (gTup (gCons (gC (.bool true)) (gCons (gC (.str "came")) gNil))) gNil)) gNil))))))))
  (gSeq (gFor (xiP (gSrc (gTup (gCons (gC (.int 0)) (gCons (gC (.int 1)) gNil))))) (asgN 1)
  (gDrop (xMt 0 appD (xCons (xP (gCall (gCons (gL (gLc (gArgs (gCons (gOp addA (gC (.int 2000)) (gVar 1)) gNil) rng1) [5] (asgN 5) gYes (gTup (gCons (gVar 5) (gCons (gC (.str "missed")) gNil))))) gNil) tupleD)) xNil))))
  (gSeq (gAsg 2 (oX (xP (gL (gLst (gCons (gC (.str "came")) (gCons (gC (.str "told")) (gCons (gC (.str "missed")) (gCons (gC (.str "given")) (gCons (gC (.str "struck")) (gCons (gC (.str "home")) gNil)))))))))))
  (gSeq (gFor (xiP (gSrc (gVar 2))) (asgN 3)
  (gFor (xiP (gSrc (gVar 2))) (asgN 4)
  (gSeq (gFor (xiP (gSrc (gTup (gCons (gC (.int 4)) (gCons (gC (.int 5)) (gCons (gC (.int 6)) gNil)))))) (asgN 5)
  (gDrop (xMt 0 appD (xCons (xP (gTup (gCons (gTup (gCons (gC (.int 5)) (gCons (gVar 3) gNil))) (gCons (gTup (gCons (gVar 5) (gCons (gVar 4) gNil))) gNil)))) xNil))))
  (gDrop (xMt 0 appD (xCons (xP (gTup (gCons (gTup (gCons (gC (.int 5)) (gCons (gC (.str "given")) gNil))) (gCons (gTup (gCons (gC (.int 5)) (gCons (gVar 3) gNil))) (gCons (gTup (gCons (gC (.int 5)) (gCons (gVar 4) gNil))) gNil))))) xNil))))))
  (gRet (oX (xB (gAndV (gOp eqD (gL (gLc (gSrc (gVar 0)) [3] (asgN 3) (gNot (gTr (gCallP 1 F_law_right (gCons (gVar 3) gNil)))) (gVar 3))) (gL (gLst gNil))) (gOp isND (gCallP 1 F_need_line (gCons (gTup gNil) gNil)) (gC .none))))))))))
def F_law_bounds_right : List D → Option (MO St2) := runP 6 g_law_bounds_right
theorem ok_law_bounds_right {P : Program} {w : World} {K : PySem.W.Frag} {mg : Str → Option Value} {base : Heap} {f : Addr} {fd : FuncData} (Fn : Fun K "_law_bounds_right" "_law_bounds_right" st_law_bounds_right f fd) (c_need_line : Cl P w K mg base 3 "need_line" (spP K R2i 1 F_need_line)) (c_law_right : Cl P w K mg base 7 "_law_right" (spP K R2i 1 F_law_right)) (m_range : mg "range" = none) (m_tuple : mg "tuple" = none) :
    FnG P w K mg base CX0 8 f fd [] (spP K R2i 0 F_law_bounds_right) := fn_P (k := 7) (N := N_law_bounds_right) (g := g_law_bounds_right) Fn sc_law_bounds_right fun cdv A outer s H E hr hgd => by
  have nd : N_law_bounds_right.Nodup := sc_law_bounds_right.nd
  unfold g_law_bounds_right
  exact (ss_seq (ss_set (by decide) nd rfl (Or.inl rfl) (eo_P (ef_lst (ap_cons (ep_tup ap_nil) (ap_cons (ep_tup (ap_cons (ep_tup (ap_cons ep_int (ap_cons ep_str ap_nil))) (ap_cons (ep_tup (ap_cons ep_int (ap_cons ep_str ap_nil))) ap_nil))) (ap_cons (ep_tup (ap_cons (ep_tup (ap_cons ep_int (ap_cons ep_str ap_nil))) (ap_cons (ep_tup (ap_cons ep_int (ap_cons ep_str ap_nil))) ap_nil))) (ap_cons (ep_tup (ap_cons (ep_tup (ap_cons (ep_un un_neg d_neg ep_int) (ap_cons ep_str ap_nil))) ap_nil)) (ap_cons (ep_tup (ap_cons (ep_tup (ap_cons ep_bl (ap_cons ep_str ap_nil))) ap_nil)) ap_nil))))))))
  (ss_seq (ss_for tgd_name (notin_own (own := [1]) (own_name (by decide)) (by decide)) rfl (xi_P (pi_any (ep_tup (ap_cons ep_int (ap_cons ep_int ap_nil))))) (pg_name (i := 1) nd rfl (Or.inl rfl))
  (ss_one (ss_drop (ex_app (pv 0) (ax_cons (ex_P (ep_ct call_tupF d_tuple (by rfl) m_tuple (by decide +kernel) (ap_cons (ep_f (ef_lc (own := [("_law_day", 5)]) tgd_name (own_name (by decide)) rfl nd (pi_r1 (by rfl) m_range (ap_cons (ep_bin o_addA d_addA ep_int (ep_var (pv 1))) ap_nil)) (blkOk_by (N := N_law_bounds_right) (sc := defScope st_law_bounds_right) (by decide +kernel)) (fun _ _ _ _ _ => (pg_name (i := 5) nd rfl (Or.inl rfl))) (fun _ _ _ _ _ => pts_yes) (fun _ _ _ _ _ => (ep_tup (ap_cons (ep_var (pv 5)) (ap_cons ep_str ap_nil)))))) ap_nil))) ax_nil)))))
  (ss_seq (ss_set (by decide) nd rfl (Or.inl rfl) (eo_X (ex_P (ep_f (ef_lst (ap_cons ep_str (ap_cons ep_str (ap_cons ep_str (ap_cons ep_str (ap_cons ep_str (ap_cons ep_str ap_nil)))))))))))
  (ss_seq (ss_for tgd_name (notin_own (own := [3]) (own_name (by decide)) (by decide)) rfl (xi_P (pi_any (ep_var (pv 2)))) (pg_name (i := 3) nd rfl (Or.inl rfl))
  (ss_one (ss_for tgd_name (notin_own (own := [4]) (own_name (by decide)) (by decide)) rfl (xi_P (pi_any (ep_var (pv 2)))) (pg_name (i := 4) nd rfl (Or.inl rfl))
  (ss_seq (ss_for tgd_name (notin_own (own := [5]) (own_name (by decide)) (by decide)) rfl (xi_P (pi_any (ep_tup (ap_cons ep_int (ap_cons ep_int (ap_cons ep_int ap_nil)))))) (pg_name (i := 5) nd rfl (Or.inl rfl))
  (ss_one (ss_drop (ex_app (pv 0) (ax_cons (ex_P (ep_tup (ap_cons (ep_tup (ap_cons ep_int (ap_cons (ep_var (pv 3)) ap_nil))) (ap_cons (ep_tup (ap_cons (ep_var (pv 5)) (ap_cons (ep_var (pv 4)) ap_nil))) ap_nil)))) ax_nil)))))
  (ss_one (ss_drop (ex_app (pv 0) (ax_cons (ex_P (ep_tup (ap_cons (ep_tup (ap_cons ep_int (ap_cons ep_str ap_nil))) (ap_cons (ep_tup (ap_cons ep_int (ap_cons (ep_var (pv 3)) ap_nil))) (ap_cons (ep_tup (ap_cons ep_int (ap_cons (ep_var (pv 4)) ap_nil))) ap_nil))))) ax_nil))))))))
  (ss_one (ss_ret (eo_X (ex_B (ep_and (ep_cmp (o_eq (room_u hr (by decide))) d_eq (ep_f (ef_lc (own := [("_law_one", 3)]) tgd_name (own_name (by decide)) rfl nd (pi_any (ep_var (pv 0))) (blkOk_by (N := N_law_bounds_right) (sc := defScope st_law_bounds_right) (by decide +kernel)) (fun _ _ _ _ _ => (pg_name (i := 3) nd rfl (Or.inl rfl))) (fun _ _ _ _ _ => (pts_one (tp_not (tp_tr (cp_call c_law_right (by decide) hr hgd (by rfl) (ap_cons (ep_var (pv 3)) ap_nil)))))) (fun _ _ _ _ _ => (ep_var (pv 3))))) (ep_f (ef_lst ap_nil)) rfl) (ep_one (ep_cmp op_isN d_isN (cp_call c_need_line (by decide) hr hgd (by rfl) (ap_cons (ep_tup ap_nil) ap_nil)) ep_non rfl)))))))))))
abbrev st_law_far_right : Stmt := top 46
abbrev N_law_far_right : List Str := ["_law_deep", "_law_wide", "_law_k", "_law_far", "_law_thing"]
theorem sc_law_far_right : FnScope N_law_far_right [] (defScope st_law_far_right) := ⟨rfl, rfl, rfl, by decide +kernel, rfl, by decide +kernel, by decide +kernel⟩
def g_law_far_right : SF St2 :=
  (gSeq (gAsgT (asgT [0, 1]) (xP (gTup (gCons (gTup gNil) (gCons (gTup (gCons (gC (.int 5)) (gCons (gC (.str "came")) gNil))) gNil)))))
  (gSeq (gFor (xiP (gArgs (gCons (gC (.int 90)) gNil) rng1)) (asgN 2)
  (gAsg 0 (oX (xP (gTup (gCons (gVar 0) gNil))))))
  (gSeq (gFor (xiP (gArgs (gCons (gC (.int 30)) gNil) rng1)) (asgN 2)
  (gAsg 1 (oX (xP (gTup (gCons (gVar 1) (gCons (gVar 1) gNil)))))))
  (gSeq (gFor (xiP (gSrc (gTup (gCons (gVar 0) (gCons (gVar 1) (gCons (gL (gLst (gCons (gVar 0) (gCons (gVar 1) gNil)))) (gCons (gDispV ["a"] (gCons (gVar 1) gNil)) gNil))))))) (asgN 3)
  (gFor (xiP (gSrc (gTup (gCons (gVar 3) (gCons (gTup (gCons (gVar 3) gNil)) (gCons (gTup (gCons (gTup (gCons (gVar 3) (gCons (gC (.str "came")) gNil))) gNil)) (gCons (gTup (gCons (gTup (gCons (gC (.int 5)) (gCons (gVar 3) gNil))) gNil)) (gCons (gTup (gCons (gTup (gCons (gC (.int 5)) (gCons (gC (.str "came")) gNil))) (gCons (gVar 3) gNil))) (gCons (gTup (gCons (gTup (gCons (gTup (gCons (gC (.int 5)) (gCons (gC (.str "came")) gNil))) (gCons (gVar 3) gNil))) gNil)) gNil))))))))) (asgN 4)
  (gIfS (xtP (gB (gOp neD (gDeed (eCall 1 FX_need_line (xCons (xP (gVar 4)) xNil)) F_law_said) (gC (.str "lineup")))))
  (gRet (oX (xP (gC (.bool false)))))
  gNext)))
  (gRet (oX (xP (gC (.bool true)))))))))
def F_law_far_right : List D → Option (MO St2) := runP 5 g_law_far_right
theorem ok_law_far_right {P : Program} {w : World} {K : PySem.W.Frag} {mg : Str → Option Value} {base : Heap} {f : Addr} {fd : FuncData} {lc lP : Addr} (Fn : Fun K "_law_far_right" "_law_far_right" st_law_far_right f fd) (m_range : mg "range" = none) (cx_need_line : ClX P w K R2i mg base 3 "need_line" 1 FX_need_line) (cd_law_said : ClD P w K mg base 5 "_law_said" F_law_said) (hlc : fd.code = .ref lc) (TB : LamX.TabB base mg lc lP) (hmT : (lP, lamQ "_law_far_right") ∈ TabL.T) (hu : ∀ p ∈ TabL.T, p.1 = lP → p.2 = lamQ "_law_far_right") :
    FnG P w K mg base CX0 7 f fd [] (spP K R2i 0 F_law_far_right) := fn_Pc (k := 6) (N := N_law_far_right) (g := g_law_far_right) Fn sc_law_far_right fun cdv hcv A outer s H E hr hgd => by
  have nd : N_law_far_right.Nodup := sc_law_far_right.nd
  unfold g_law_far_right
  exact (ss_seq (ss_asgT (tgd_tup (is := [0, 1])) (notin_own (own := [0, 1]) (own_tup (by decide)) (by decide)) (ex_P (ep_tup (ap_cons (ep_tup ap_nil) (ap_cons (ep_tup (ap_cons ep_int (ap_cons ep_str ap_nil))) ap_nil)))) (pg_tup rfl (pgs_cons (pg_name (i := 0) nd rfl (Or.inl rfl)) (pgs_cons (pg_name (i := 1) nd rfl (Or.inl rfl)) pgs_nil))))
  (ss_seq (ss_for tgd_name (notin_own (own := [2]) (own_name (by decide)) (by decide)) rfl (xi_P (pi_r1 (by rfl) m_range (ap_cons ep_int ap_nil))) (pg_name (i := 2) nd rfl (Or.inl rfl))
  (ss_one (ss_set (by decide) nd rfl (Or.inl rfl) (eo_X (ex_P (ep_tup (ap_cons (ep_var (pv 0)) ap_nil)))))))
  (ss_seq (ss_for tgd_name (notin_own (own := [2]) (own_name (by decide)) (by decide)) rfl (xi_P (pi_r1 (by rfl) m_range (ap_cons ep_int ap_nil))) (pg_name (i := 2) nd rfl (Or.inl rfl))
  (ss_one (ss_set (by decide) nd rfl (Or.inl rfl) (eo_X (ex_P (ep_tup (ap_cons (ep_var (pv 1)) (ap_cons (ep_var (pv 1)) ap_nil))))))))
  (ss_seq (ss_for tgd_name (notin_own (own := [3]) (own_name (by decide)) (by decide)) rfl (xi_P (pi_any (ep_tup (ap_cons (ep_var (pv 0)) (ap_cons (ep_var (pv 1)) (ap_cons (ep_f (ef_lst (ap_cons (ep_var (pv 0)) (ap_cons (ep_var (pv 1)) ap_nil)))) (ap_cons (ep_dispK (pk_cons pe_str (ep_var (pv 1)) pk_nil)) ap_nil))))))) (pg_name (i := 3) nd rfl (Or.inl rfl))
  (ss_one (ss_for tgd_name (notin_own (own := [4]) (own_name (by decide)) (by decide)) rfl (xi_P (pi_any (ep_tup (ap_cons (ep_var (pv 3)) (ap_cons (ep_tup (ap_cons (ep_var (pv 3)) ap_nil)) (ap_cons (ep_tup (ap_cons (ep_tup (ap_cons (ep_var (pv 3)) (ap_cons ep_str ap_nil))) ap_nil)) (ap_cons (ep_tup (ap_cons (ep_tup (ap_cons ep_int (ap_cons (ep_var (pv 3)) ap_nil))) ap_nil)) (ap_cons (ep_tup (ap_cons (ep_tup (ap_cons ep_int (ap_cons ep_str ap_nil))) (ap_cons (ep_var (pv 3)) ap_nil))) (ap_cons (ep_tup (ap_cons (ep_tup (ap_cons (ep_tup (ap_cons ep_int (ap_cons ep_str ap_nil))) (ap_cons (ep_var (pv 3)) ap_nil))) ap_nil)) ap_nil))))))))) (pg_name (i := 4) nd rfl (Or.inr rfl))
  (ss_one (ss_if (xt_P (tp_cmp (o_ne (room_u hr (by decide))) d_ne (ep_deed (j := 4) cd_law_said (by rfl) TB (hcv.symm.trans hlc) hmT hu (by decide) hr hgd (LamX.lamS_by (sc := defScope st_law_far_right) (by decide +kernel)) rfl (fun _ _ _ _ _ => rfl) (fun A outer s H E f c2 hr hgd tk => (xe_call cx_need_line (by decide) hr hgd (by rfl) tk (ax_cons (ex_P (ep_var (pv 4))) ax_nil)))) ep_str rfl))
  (ss_one (ss_ret (eo_X (ex_P ep_bl))))
  ss_nil)))))
  (ss_one (ss_ret (eo_X (ex_P ep_bl))))))))
abbrev st_law : Stmt := top 47
abbrev N_law : List Str := ["_law_script", "_law_state_here", "_law_turn", "_law_line_here", "_law_k", "_law_thing", "_law_more", "_law_text"]
theorem sc_law : FnScope N_law ["_law_script"] (defScope st_law) := ⟨rfl, rfl, rfl, by decide +kernel, rfl, by decide +kernel, by decide +kernel⟩
def g_law : SF St2 :=
  (gSeq (gAsg 1 (oCallP 1 F_law_state (xCons (xO (oP (gScSl 0 gNoPart (gPart (gC (.int 63)))))) xNil)))
  (gSeq (gFor (xArgs (xCons (xOp addA (xP (gC (.int 2))) (xCall (xCons (xP (gC (.int 4))) (xCons (xOp divD (xScLen 0) (xP (gC (.int 8)))) xNil)) min2)) xNil) rng1) (asgN 2)
  (gSeq (gAsg 3 (oX (xO (oCallV 2 1 F_law_line (xCons (xO (oCallV 2 1 F_law_next (xCons (xP (gC (.int 13))) xNil))) xNil)))))
  (gFor (xiP (gArgs (gCons (gC (.int 8)) gNil) rng1)) (asgN 4)
  (gSeq (gAsg 5 (oX (xP (gVar 3))))
  (gSeq (gFor (xiP (gArgs (gCons (gOp modD (gVar 4) (gC (.int 3))) gNil) rng1)) (asgN 6)
  (gAsg 5 (oX (xO (oCallV 2 1 F_law_bent (xCons (xP (gVar 5)) xNil))))))
  (gSeq (gAsg 7 (oX (xP (gCall (gCons (gVar 5) gNil) reprE))))
  (gIfS (xtP (gOr (gNot (gTr (gCallP 1 F_law_right (gCons (gVar 5) gNil)))) (gB (gOp neD (gCall (gCons (gVar 5) gNil) reprE) (gVar 7)))))
  (gRet (oX (xP (gC (.bool false)))))
  gNext)))))))
  (gRet (oX (xP (gAndV (gCallP 0 F_law_bounds_right gNil) (gCallP 0 F_law_far_right gNil)))))))
def F_law : List Int → List D → Option (MO St2) := runC 8 g_law
theorem ok_law {P : Program} {w : World} {K : PySem.W.Frag} {mg : Str → Option Value} {base : Heap} {f : Addr} {fd : FuncData} (Fn : Fun K "law" "law" st_law f fd) (c_law_state : Cl P w K mg base 1 "_law_state" (spP K R2i 1 F_law_state)) (c_law_line : Cl P w K mg base 2 "_law_line" (spV K R2i 2 F_law_line)) (c_law_next : Cl P w K mg base 1 "_law_next" (spV K R2i 2 F_law_next)) (c_law_bent : Cl P w K mg base 10 "_law_bent" (spV K R2i 2 F_law_bent)) (c_law_right : Cl P w K mg base 7 "_law_right" (spP K R2i 1 F_law_right)) (c_law_far_right : Cl P w K mg base 7 "_law_far_right" (spP K R2i 0 F_law_far_right)) (c_law_bounds_right : Cl P w K mg base 8 "_law_bounds_right" (spP K R2i 0 F_law_bounds_right)) (m_len : mg "len" = none) (m_min : mg "min" = none) (m_range : mg "range" = none) (m_repr : mg "repr" = none) :
    FnG P w K mg base CX0 11 f fd ["_law_script"] (spC K R2i 1 F_law) := fn_C (k := 10) (N := N_law) (g := g_law) Fn sc_law fun cdv A outer s H E hr hgd => by
  have nd : N_law.Nodup := sc_law.nd
  unfold g_law
  exact (ss_seq (ss_set (by decide) nd rfl (Or.inl rfl) (co_call c_law_state (by decide) hr hgd (by rfl) (ax_cons (ex_O (eo_P (ef_scSl (pv 0) op_no (op_part ep_int)))) ax_nil)))
  (ss_seq (ss_for tgd_name (notin_own (own := [2]) (own_name (by decide)) (by decide)) rfl (xi_r1 (by rfl) m_range (ax_cons (ex_bin o_addA d_addA (ex_P ep_int) (ex_cb (call_min2 rfl) d_min2 (by rfl) m_min (by decide +kernel) (ax_cons (ex_P ep_int) (ax_cons (ex_bin op_fdivW d_div (ex_scrLen (by rfl) m_len (pv 0)) (ex_P ep_int)) ax_nil)))) ax_nil)) (pg_name (i := 2) nd rfl (Or.inl rfl))
  (ss_seq (ss_set (by decide) nd rfl (Or.inl rfl) (eo_X (ex_O (co_callV c_law_line (by decide) hr hgd (by rfl) (pv 1) (ax_cons (ex_O (co_callV c_law_next (by decide) hr hgd (by rfl) (pv 1) (ax_cons (ex_P ep_int) ax_nil))) ax_nil)))))
  (ss_one (ss_for tgd_name (notin_own (own := [4]) (own_name (by decide)) (by decide)) rfl (xi_P (pi_r1 (by rfl) m_range (ap_cons ep_int ap_nil))) (pg_name (i := 4) nd rfl (Or.inl rfl))
  (ss_seq (ss_set (by decide) nd rfl (Or.inl rfl) (eo_X (ex_P (ep_var (pv 3)))))
  (ss_seq (ss_for tgd_name (notin_own (own := [6]) (own_name (by decide)) (by decide)) rfl (xi_P (pi_r1 (by rfl) m_range (ap_cons (ep_bin op_mod d_mod (ep_var (pv 4)) ep_int) ap_nil))) (pg_name (i := 6) nd rfl (Or.inl rfl))
  (ss_one (ss_set (by decide) nd rfl (Or.inl rfl) (eo_X (ex_O (co_callV c_law_bent (by decide) hr hgd (by rfl) (pv 1) (ax_cons (ex_P (ep_var (pv 5))) ax_nil)))))))
  (ss_seq (ss_set (by decide) nd rfl (Or.inl rfl) (eo_X (ex_P (ep_cb (call_reprE (room_u hr (by decide)) hgd) d_reprE (by rfl) m_repr (by decide +kernel) (ap_cons (ep_var (pv 5)) ap_nil)))))
  (ss_one (ss_if (xt_P (PW.pt (tw_or (tp_not (tp_tr (cp_call c_law_right (by decide) hr hgd (by rfl) (ap_cons (ep_var (pv 5)) ap_nil)))) (tw_or1 (tp_cmp (o_ne (room_u hr (by decide))) d_ne (ep_cb (call_reprE (room_u hr (by decide)) hgd) d_reprE (by rfl) m_repr (by decide +kernel) (ap_cons (ep_var (pv 5)) ap_nil)) (ep_var (pv 7)) rfl)))))
  (ss_one (ss_ret (eo_X (ex_P ep_bl))))
  ss_nil)))))))))
  (ss_one (ss_ret (eo_X (ex_P (ep_and (cp_call0 c_law_bounds_right (by decide) hr hgd (by rfl)) (ep_one (cp_call0 c_law_far_right (by decide) hr hgd (by rfl))))))))))
end
end LAW
set_option Elab.async false
set_option linter.all false
set_option maxRecDepth 100000
set_option maxHeartbeats 4000000
namespace DL
open PySem PySem.Spec PyProof.Rows L2
section
variable {S : Type} {ds ds1 ds2 : DS S} {α : Type}
theorem runP_ev {n : Nat} {g : SF S} {as : List D} {o : Out S} {p : MO S × DS S} (h : g (startD n (as.map .d)) = some o) (e : outM o = some p) : runP n g as = some p.1 := by
  unfold runP; rw [h, Option.bind_some, e]; rfl
theorem ret_ev {f : XF S (MO S)} {m : MO S} (e : f ds = some (m, ds1)) : gRet f ds = some (.rt m ds1) := by
  unfold gRet; rw [e]; rfl
theorem asg_ev {i : Nat} {f : XF S (MO S)} {m : MO S} (e : f ds = some (m, ds1)) : gAsg i f ds = some (.nx (ds1.set i (some m))) := by
  unfold gAsg; rw [e]; rfl
theorem drop_ev {f : XF S D} {d : D} (e : f ds = some (d, ds1)) : gDrop f ds = some (.nx ds1) := by
  unfold gDrop; rw [e]; rfl
theorem ifT_ev {c : XF S Bool} {g h : SF S} {o : Out S} (e : c ds = some (true, ds1)) (e2 : g ds1 = some o) : gIfS c g h ds = some o := by
  unfold gIfS; rw [e]; exact e2
theorem ifF_ev {c : XF S Bool} {g h : SF S} {o : Out S} (e : c ds = some (false, ds1)) (e2 : h ds1 = some o) : gIfS c g h ds = some o := by
  unfold gIfS; rw [e]; exact e2
theorem for_ev {src : XF S (List D)} {t : D → Option (List (Nat × D))} {b : SF S} {xs : List D} {o : Out S} (e : src ds = some (xs, ds1)) (e2 : forRun t b xs ds1 = some o) : gFor src t b ds = some o := by
  unfold gFor; rw [e]; exact e2
theorem xb_ev {β : Type} {f : XF S α} {k : α → XF S β} {x : α} {y : β × DS S} (e : f ds = some (x, ds1)) (e2 : k x ds1 = some y) : xb f k ds = some y := by
  unfold xb; rw [e]; exact e2
theorem xlift_ev {o : Option α} {x : α} (e : o = some x) : xlift o ds = some (x, ds) := by
  unfold xlift; rw [e]; rfl
theorem xP_ev {g : DS S → Option D} {d : D} (e : g (hideDS ds) = some d) : xP g ds = some (d, ds) := by unfold xP; rw [e]; rfl
theorem xB_ev {g : DS S → Option D} {d : D} (e : g ds = some d) (n : noList d = true) : xB g ds = some (d, ds) := by unfold xB; rw [e, Option.bind_some, if_pos n]
theorem oP_ev {g : DS S → Option (List D)} {xs : List D} (e : g (hideDS ds) = some xs) : oP g ds = some (.lst xs, ds) := by unfold oP; rw [e]; rfl
theorem oB_ev {g : DS S → Option (List D)} {xs : List D} (e : g ds = some xs) (n : noListAll xs = true) : oB g ds = some (.lst xs, ds) := by unfold oB; rw [e, Option.bind_some, if_pos n]
theorem oX_ev {f : XF S D} {d : D} (e : f ds = some (d, ds1)) : oX f ds = some (.d d, ds1) := by unfold oX; rw [e]; rfl
theorem xOl_ev {f : XF S (MO S)} {xs : List D} (e : f ds = some (.lst xs, ds1)) : xO f ds = some (.list xs, ds1) := by unfold xO; rw [e]
theorem xOd_ev {f : XF S (MO S)} {d : D} (e : f ds = some (.d d, ds1)) : xO f ds = some (d, ds1) := by unfold xO; rw [e]
theorem xtP_ev {h : DS S → Option Bool} {b : Bool} (e : h ds = some b) : xtP h ds = some (b, ds) := by unfold xtP; rw [e]; rfl
theorem xiP_ev {g : DS S → Option (List D)} {xs : List D} (e : g (hideDS ds) = some xs) : xiP g ds = some (xs, ds) := by unfold xiP; rw [e]; rfl
theorem op_ev {g : D → D → Option D} {a b : DS S → Option D} {x y z : D} (e1 : a ds = some x) (e2 : b ds = some y) (e3 : g x y = some z) : gOp g a b ds = some z := by unfold gOp; rw [e1, Option.bind_some, e2]; exact e3
theorem op2_ev {g : D → D → Option D} {a b : DS S → Option D} {x y z : D} (e1 : a ds = some x) (e2 : b ds = some y) (e3 : g x y = some z) : gOp2 g a b ds = some z := by unfold gOp2; rw [e1, Option.bind_some, e2]; exact e3
theorem un_ev {g : D → Option D} {a : DS S → Option D} {x z : D} (e1 : a ds = some x) (e3 : g x = some z) : gUn g a ds = some z := by unfold gUn; rw [e1]; exact e3
theorem L_ev {g : DS S → Option (List D)} {xs : List D} (e : g ds = some xs) : gL g ds = some (.list xs) := by unfold gL; rw [e]; rfl
theorem B_ev {g : DS S → Option D} {b : Bool} (e : g ds = some (.bool b)) : gB g ds = some b := by unfold gB; rw [e]
theorem Tr_ev {g : DS S → Option D} {d : D} {b : Bool} (e : g ds = some d) (e2 : truD d = some b) : gTr g ds = some b := by unfold gTr; rw [e]; exact e2
theorem Not_ev {g : DS S → Option Bool} {b : Bool} (e : g ds = some b) : gNot g ds = some (!b) := by unfold gNot; rw [e]; rfl
theorem Chain_ev {g g' : D → D → Option D} {a b c : DS S → Option D} {x y u : D} {p q : Bool} (e1 : a ds = some x) (e2 : b ds = some y) (e3 : g x y = some (.bool p)) (e4 : p = true → c ds = some u) (e5 : p = true → g' y u = some (.bool q)) (e6 : p = false → q = false) : gChain g g' a b c ds = some (.bool q) := by
  unfold gChain
  rw [e1, Option.bind_some, e2, Option.bind_some, e3, Option.bind_some]
  cases p with
  | true => dsimp only; rw [e4 rfl]; exact e5 rfl
  | false => rw [e6 rfl]
theorem Cons_ev {g : DS S → Option D} {r : DS S → Option (List D)} {x : D} {xs : List D} (e1 : g ds = some x) (e2 : r ds = some xs) : gCons g r ds = some (x :: xs) := by unfold gCons; rw [e1, Option.bind_some, e2]; rfl
theorem Tup_ev {g : DS S → Option (List D)} {xs : List D} (e : g ds = some xs) (z : xs.length ≤ sizeLine) : gTup g ds = some (.tuple xs) := by unfold gTup; rw [e, Option.bind_some, if_pos z]
theorem Lst_ev {g : DS S → Option (List D)} {xs : List D} (e : g ds = some xs) (z : xs.length ≤ sizeLine) : gLst g ds = some xs := by unfold gLst; rw [e, Option.bind_some, if_pos z]
theorem CallP_ev {n : Nat} {F : List D → Option (MO S)} {g : DS S → Option (List D)} {as : List D} {m : MO S} {d : D} (e : g ds = some as) (n1 : as.length = n) (e2 : F as = some m) (e3 : toD m = some d) : gCallP n F g ds = some d := by unfold gCallP; rw [e, Option.bind_some, if_pos n1, e2]; exact e3
theorem Call_ev {g : DS S → Option (List D)} {f : List D → Option D} {as : List D} {d : D} (e : g ds = some as) (e2 : f as = some d) : gCall g f ds = some d := by unfold gCall; rw [e]; exact e2
theorem Args_ev {g : DS S → Option (List D)} {f : List D → Option (List D)} {as xs : List D} (e : g ds = some as) (e2 : f as = some xs) : gArgs g f ds = some xs := by unfold gArgs; rw [e]; exact e2
theorem Src_ev {g : DS S → Option D} {d : D} {xs : List D} (e : g ds = some d) (e2 : srcD d = some xs) : gSrc g ds = some xs := by unfold gSrc; rw [e]; exact e2
theorem SlA_ev {a : DS S → Option D} {l h : DS S → Option (Option Int)} {x d : D} {lo hi : Option Int} (e : a ds = some x) (e1 : l ds = some lo) (e2 : h ds = some hi) (e3 : slA x lo hi = some d) : gSlA a l h ds = some d := by unfold gSlA; rw [e, Option.bind_some, e1, Option.bind_some, e2]; exact e3
theorem Part_ev {g : DS S → Option D} {i : Int} (e : g ds = some (.int i)) : gPart g ds = some (some i) := by unfold gPart; rw [e]
theorem asgT_ev {t : D → Option (List (Nat × D))} {f : XF S D} {d : D} {as : List (Nat × D)} (e : f ds = some (d, ds1)) (e2 : t d = some as) : gAsgT t f ds = some (.nx (setD ds1 as)) := by unfold gAsgT; rw [e, Option.bind_some]; dsimp only; rw [e2]; rfl
theorem NotV_ev {g : DS S → Option D} {d : D} {b : Bool} (e : g ds = some d) (e2 : truD d = some b) : gNotV g ds = some (.bool (!b)) := by unfold gNotV; rw [e, Option.bind_some, e2]; rfl
theorem parN_ev {is : List Nat} {f : XF S (List (MO S))} {ms : List (MO S)} (e : f ds = some (ms, ds1)) (n1 : ms.length = is.length) (n2 : ms.length ≤ sizeLine) : gParN is f ds = some (.nx (setM ds1 is ms)) := by unfold gParN; rw [e, Option.bind_some]; dsimp only; rw [if_pos ⟨n1, n2⟩]
theorem oCons_ev {f : XF S (MO S)} {r : XF S (List (MO S))} {m : MO S} {ms : List (MO S)} (e1 : f ds = some (m, ds1)) (e2 : r ds1 = some (ms, ds2)) : oCons f r ds = some (m :: ms, ds2) := xb_ev e1 (xb_ev e2 (xlift_ev rfl))
theorem xCons_ev {f : XF S D} {r : XF S (List D)} {m : D} {ms : List D} (e1 : f ds = some (m, ds1)) (e2 : r ds1 = some (ms, ds2)) : xCons f r ds = some (m :: ms, ds2) := xb_ev e1 (xb_ev e2 (xlift_ev rfl))
theorem par2_ev {i j : Nat} {f : XF S (List (MO S))} {x y : MO S} (e : f ds = some ([x, y], ds1)) : gPar2 i j f ds = some (.nx ((ds1.set i (some x)).set j (some y))) := by unfold gPar2; rw [e]; rfl
theorem par3_ev {i j l : Nat} {f : XF S (List (MO S))} {x y z : MO S} (e : f ds = some ([x, y, z], ds1)) : gPar3 i j l f ds = some (.nx (((ds1.set i (some x)).set j (some y)).set l (some z))) := by unfold gPar3; rw [e]; rfl
theorem xTup_ev {f : XF S (List D)} {xs : List D} (e : f ds = some (xs, ds1)) (z : xs.length ≤ sizeLine) : xTup f ds = some (.tuple xs, ds1) := xb_ev e (xlift_ev (by rw [if_pos z]))
theorem xLst_ev {f : XF S (List D)} {xs : List D} (e : f ds = some (xs, ds1)) (z : xs.length ≤ sizeLine) : xLst f ds = some (.lst xs, ds1) := xb_ev e (xlift_ev (by rw [if_pos z]))
theorem xOp_ev {g : D → D → Option D} {a b : XF S D} {x y z : D} (e1 : a ds = some (x, ds1)) (e2 : b ds1 = some (y, ds2)) (e3 : g x y = some z) : xOp g a b ds = some (z, ds2) := xb_ev e1 (xb_ev e2 (xlift_ev e3))
theorem xCall_ev {f : XF S (List D)} {g : List D → Option D} {as : List D} {d : D} (e : f ds = some (as, ds1)) (e2 : g as = some d) : xCall f g ds = some (d, ds1) := xb_ev e (xlift_ev e2)
theorem xBool_ev {f : XF S D} {b : Bool} (e : f ds = some (.bool b, ds1)) : xBool f ds = some (b, ds1) := xb_ev e (xlift_ev rfl)
theorem xMt_ev {i : Nat} {g : List D → List D → Option (D × List D)} {f : XF S (List D)} {xs0 xs as ys : List D} {d : D} (e0 : lstAt ds i = some xs0) (e : f ds = some (as, ds1)) (e1 : lstAt ds1 i = some xs) (e2 : g xs as = some (d, ys)) : xMt i g f ds = some (d, ds1.set i (some (.lst ys))) := by
  unfold xMt; rw [e0, Option.bind_some]; exact xb_ev e (by rw [e1, Option.bind_some, e2]; rfl)
theorem callP_ev {n : Nat} {F : List D → Option (MO S)} {f : XF S (List D)} {as : List D} {m : MO S} (e : f ds = some (as, ds1)) (n1 : as.length = n) (e2 : F as = some m) : oCallP n F f ds = some (m, ds1) := xb_ev e (xlift_ev (by rw [if_pos n1]; exact e2))
theorem callS_ev {n i : Nat} {F : S → List D → Option (MO S × S)} {f : XF S (List D)} {s0 s s' : S} {as : List D} {m : MO S} (e0 : stAt ds i = some s0) (e : f ds = some (as, ds1)) (e1 : stAt ds1 i = some s) (n1 : as.length + 1 = n) (e2 : F s as = some (m, s')) : oCallS n i F f ds = some (m, ds1.set i (some (.st s'))) := by
  unfold oCallS; rw [e0, Option.bind_some]; exact xb_ev e (by rw [e1, Option.bind_some, if_pos n1, e2]; rfl)
theorem lcRun_map {β : Type} {f : D → Option (Option D)} {enc : β → D} {h : β → Option D} : ∀ {es : List β}, (∀ e ∈ es, f (enc e) = some (h e)) → lcRun f (es.map enc) = some (es.filterMap h)
  | [], _ => rfl
  | e :: es, k => by
    rw [List.map_cons]
    unfold lcRun
    rw [k e (List.mem_cons_self ..), lcRun_map fun x hx => k x (List.mem_cons_of_mem _ hx)]
    simp only [Option.bind_some, List.filterMap_cons]
    cases h e <;> rfl
theorem Lc_ev {β : Type} {src : DS S → Option (List D)} {own : List Nat} {t : D → Option (List (Nat × D))} {h : DS S → Option Bool} {g : DS S → Option D} {es : List β} {enc : β → D} {k : β → Option D} (e : src ds = some (es.map enc)) (hk : ∀ b ∈ es, lcOne ds own t h g (enc b) = some (k b)) : gLc src own t h g ds = some (es.filterMap k) := by
  unfold gLc; rw [e]; exact lcRun_map hk
theorem One_ev {own : List Nat} {t : D → Option (List (Nat × D))} {h : DS S → Option Bool} {g : DS S → Option D} {x : D} {as : List (Nat × D)} {b : Bool} {y : D} (e1 : t x = some as) (e2 : h (setD (wipeD ds own) as) = some b) (e3 : b = true → g (setD (wipeD ds own) as) = some y) : lcOne ds own t h g x = some (if b then some y else none) := by
  unfold lcOne
  rw [e1, Option.bind_some, e2, Option.bind_some]
  cases b with
  | true => rw [if_pos rfl, e3 rfl]; rfl
  | false => rfl
theorem LcAll_ev {β : Type} {src : DS S → Option (List D)} {own : List Nat} {t : D → Option (List (Nat × D))} {g : DS S → Option D} {es : List β} {enc : β → D} {k : β → D} (e : src ds = some (es.map enc)) (ht : ∀ b ∈ es, ∃ as, t (enc b) = some as ∧ g (setD (wipeD ds own) as) = some (k b)) : gLc src own t gYes g ds = some (es.map k) := by
  rw [Lc_ev (k := fun b => some (k b)) e fun b hb => ?_]
  · rw [List.filterMap_eq_map']
  · obtain ⟨as, h1, h2⟩ := ht b hb
    exact One_ev (h := gYes) (b := true) h1 rfl fun _ => h2
theorem LcSome_ev {β : Type} {src : DS S → Option (List D)} {own : List Nat} {t : D → Option (List (Nat × D))} {h : DS S → Option Bool} {g : DS S → Option D} {es : List β} {enc : β → D} {p : β → Bool} {k : β → D} (e : src ds = some (es.map enc)) (ht : ∀ b ∈ es, ∃ as, t (enc b) = some as ∧ h (setD (wipeD ds own) as) = some (p b) ∧ (p b = true → g (setD (wipeD ds own) as) = some (k b))) : gLc src own t h g ds = some ((es.filter p).map k) := by
  rw [Lc_ev (k := fun b => if p b then some (k b) else none) e fun b hb => ?_]
  · clear ht e
    induction es with
    | nil => rfl
    | cons x xs ih =>
      rw [List.filterMap_cons, List.filter_cons]
      cases p x with
      | true => simp only [if_true, List.map_cons]; rw [Option.some.inj ih]
      | false => simp only [Bool.false_eq_true, if_false]; exact ih
  · obtain ⟨as, h1, h2, h3⟩ := ht b hb
    exact One_ev h1 h2 h3
end
set_option Elab.async false
set_option linter.all false
set_option maxRecDepth 100000
set_option maxHeartbeats 4000000
section
variable {TBL : TabL}
section
variable {S : Type} {α β γ : Type} {ds ds1 : DS S}
def OW (o : Option α) (Q : α → Prop) : Prop := ∃ x, o = some x ∧ Q x
def PW2 (o : Option (α × β)) (Q : α → β → Prop) : Prop := ∃ x y, o = some (x, y) ∧ Q x y
def XW (f : XF S α) (ds : DS S) (Q : α → DS S → Prop) : Prop := ∃ x ds1, f ds = some (x, ds1) ∧ Q x ds1
def SEndW (N : DS S → Prop) (R : MO S → DS S → Prop) (B C : DS S → Prop) : Out S → Prop
  | .nx ds => N ds
  | .rt m ds => R m ds
  | .bk ds => B ds
  | .ct ds => C ds
def SW (g : SF S) (ds : DS S) (N : DS S → Prop) (R : MO S → DS S → Prop) (B C : DS S → Prop) : Prop := ∃ o, g ds = some o ∧ SEndW N R B C o
def FW (t : D → Option (List (Nat × D))) (b : SF S) (xs : List D) (ds : DS S) (N : DS S → Prop) (R : MO S → DS S → Prop) : Prop := ∃ o, forRun t b xs ds = some o ∧ SEndW N R (fun _ => False) (fun _ => False) o
def IW (b : Bool) (P Q : Prop) : Prop := (b = true → P) ∧ (b = false → Q)
def BW (d : D) (Q : Bool → Prop) : Prop := ∃ b, d = .bool b ∧ Q b
def IntW (d : D) (Q : Int → Prop) : Prop := ∃ i, d = .int i ∧ Q i
def LsW (m : MO S) (Q : List D → Prop) : Prop := ∃ xs, m = .lst xs ∧ Q xs
def SetW (ds : DS S) (i : Nat) (m : Option (MO S)) (N : DS S → Prop) : Prop := N (ds.set i m)
def SetDW (ds : DS S) (as : List (Nat × D)) (N : DS S → Prop) : Prop := N (setD ds as)
def SetMW (ds : DS S) (is : List Nat) (ms : List (MO S)) (N : DS S → Prop) : Prop := N (setM ds is ms)
def AW (P Q : Prop) : Prop := P ∧ Q
def LetW (ds : DS S) (N : DS S → Prop) : Prop := N ds
theorem ow_eq {o : Option α} {x : α} {Q : α → Prop} (e : o = some x) (q : Q x) : OW o Q := ⟨x, e, q⟩
theorem ow_some {x : α} {Q : α → Prop} (q : Q x) : OW (some x) Q := ⟨x, rfl, q⟩
theorem ow_imp {o : Option α} {P Q : α → Prop} (h : OW o P) (i : ∀ x, P x → Q x) : OW o Q := by obtain ⟨x, e, p⟩ := h; exact ⟨x, e, i x p⟩
theorem sw_imp {g : SF S} {N N' : DS S → Prop} {R R' : MO S → DS S → Prop} {B B' C C' : DS S → Prop} (h : SW g ds N R B C) (n : ∀ d, N d → N' d) (r : ∀ m d, R m d → R' m d) (b : ∀ d, B d → B' d) (c : ∀ d, C d → C' d) : SW g ds N' R' B' C' := by
  obtain ⟨o, e, q⟩ := h
  refine ⟨o, e, ?_⟩
  cases o with
  | nx d => exact n d q
  | rt m d => exact r m d q
  | bk d => exact b d q
  | ct d => exact c d q
theorem iw_T {P Q : Prop} (p : P) : IW true P Q := ⟨fun _ => p, nofun⟩
theorem iw_F {P Q : Prop} (q : Q) : IW false P Q := ⟨nofun, fun _ => q⟩
theorem iw_t {b : Bool} {P Q : Prop} (e : b = true) (p : P) : IW b P Q := by subst e; exact iw_T p
theorem iw_f {b : Bool} {P Q : Prop} (e : b = false) (q : Q) : IW b P Q := by subst e; exact iw_F q
theorem iw_self {α : Type} [DecidableEq α] {x : α} {P Q : Prop} (p : P) : IW (decide (x = x)) P Q := iw_t (decide_eq_true rfl) p
theorem iw_nself {α : Type} [DecidableEq α] {x : α} {P Q : Prop} (q : Q) : IW (!decide (x = x)) P Q := iw_f (by rw [decide_eq_true rfl]; rfl) q
theorem aw_mk {P Q : Prop} (p : P) (q : Q) : AW P Q := ⟨p, q⟩
theorem le_size {n : Nat} (h : Nat.ble n sizeLine = true) : n ≤ sizeLine := Nat.le_of_ble_eq_true h
theorem bw_mk {b : Bool} {Q : Bool → Prop} (q : Q b) : BW (.bool b) Q := ⟨b, rfl, q⟩
theorem intw_mk {i : Int} {Q : Int → Prop} (q : Q i) : IntW (.int i) Q := ⟨i, rfl, q⟩
theorem lsw_mk {xs : List D} {Q : List D → Prop} (q : Q xs) : LsW (S := S) (.lst xs) Q := ⟨xs, rfl, q⟩
theorem setw0 {a m : Option (MO S)} {r : DS S} {N : DS S → Prop} (q : N (m :: r)) : SetW (a :: r) 0 m N := q
theorem setwS {a m : Option (MO S)} {r : DS S} {i : Nat} {N : DS S → Prop} (q : SetW r i m fun r' => N (a :: r')) : SetW (a :: r) (i + 1) m N := q
theorem setdw0 {N : DS S → Prop} (q : N ds) : SetDW ds [] N := q
theorem setdwS {i : Nat} {d : D} {r : List (Nat × D)} {N : DS S → Prop} (q : SetW ds i (some (.d d)) fun ds1 => SetDW ds1 r N) : SetDW ds ((i, d) :: r) N := q
theorem setdwZ {i : Nat} {d : D} {is : List Nat} {r : List D} {N : DS S → Prop} (q : SetW ds i (some (.d d)) fun ds1 => SetDW ds1 (is.zip r) N) : SetDW ds ((i :: is).zip (d :: r)) N := q
theorem setdwZ0 {r : List D} {N : DS S → Prop} (q : N ds) : SetDW ds (([] : List Nat).zip r) N := q
theorem setmw0 {N : DS S → Prop} (q : N ds) : SetMW ds [] [] N := q
theorem setmwS {i : Nat} {m : MO S} {is : List Nat} {ms : List (MO S)} {N : DS S → Prop} (q : SetW ds i (some m) fun ds1 => SetMW ds1 is ms N) : SetMW ds (i :: is) (m :: ms) N := q
variable {Q : D → Prop} {QL : List D → Prop} {QB : Bool → Prop} {g h a b c : DS S → Option D} {r : DS S → Option (List D)} {p p' : DS S → Option Bool}
theorem ow_var {i : Nat} {x : D} (e : gVar i ds = some x) (q : Q x) : OW (gVar i ds) Q := ⟨x, e, q⟩
theorem ow_C {d : D} (q : Q d) : OW (gC d ds) Q := ⟨d, rfl, q⟩
theorem ow_op {f : D → D → Option D} (k : OW (a ds) fun x => OW (b ds) fun y => OW (f x y) Q) : OW (gOp f a b ds) Q := by
  obtain ⟨x, e1, y, e2, z, e3, q⟩ := k; exact ⟨z, op_ev e1 e2 e3, q⟩
theorem ow_op2 {f : D → D → Option D} (k : OW (a ds) fun x => OW (b ds) fun y => OW (f x y) Q) : OW (gOp2 f a b ds) Q := by
  obtain ⟨x, e1, y, e2, z, e3, q⟩ := k; exact ⟨z, op2_ev e1 e2 e3, q⟩
theorem ow_opF {f : D → D → Option (List D)} (k : OW (a ds) fun x => OW (b ds) fun y => OW (f x y) QL) : OW (gOpF f a b ds) QL := by
  obtain ⟨x, e1, y, e2, z, e3, q⟩ := k; exact ⟨z, by unfold gOpF; rw [e1, Option.bind_some, e2]; exact e3, q⟩
theorem ow_un {f : D → Option D} (k : OW (a ds) fun x => OW (f x) Q) : OW (gUn f a ds) Q := by
  obtain ⟨x, e1, z, e3, q⟩ := k; exact ⟨z, un_ev e1 e3, q⟩
theorem ow_L (k : OW (r ds) fun xs => Q (.list xs)) : OW (gL r ds) Q := by
  obtain ⟨xs, e, q⟩ := k; exact ⟨_, L_ev e, q⟩
theorem ow_nil (q : QL []) : OW (gNil ds) QL := ⟨[], rfl, q⟩
theorem ow_cons (k : OW (g ds) fun x => OW (r ds) fun xs => QL (x :: xs)) : OW (gCons g r ds) QL := by
  obtain ⟨x, e1, xs, e2, q⟩ := k; exact ⟨_, Cons_ev e1 e2, q⟩
theorem ow_tup (k : OW (r ds) fun xs => AW (xs.length ≤ sizeLine) (Q (.tuple xs))) : OW (gTup r ds) Q := by
  obtain ⟨xs, e, z, q⟩ := k; exact ⟨_, Tup_ev e z, q⟩
theorem ow_lst (k : OW (r ds) fun xs => AW (xs.length ≤ sizeLine) (QL xs)) : OW (gLst r ds) QL := by
  obtain ⟨xs, e, z, q⟩ := k; exact ⟨_, Lst_ev e z, q⟩
theorem ow_tr (k : OW (g ds) fun x => OW (truD x) QB) : OW (gTr g ds) QB := by
  obtain ⟨x, e, b, e2, q⟩ := k; exact ⟨b, Tr_ev e e2, q⟩
theorem ow_B (k : OW (g ds) fun x => BW x QB) : OW (gB g ds) QB := by
  obtain ⟨x, e, b, rfl, q⟩ := k; exact ⟨b, B_ev e, q⟩
theorem ow_not (k : OW (p ds) fun b => QB (!b)) : OW (gNot p ds) QB := by
  obtain ⟨b, e, q⟩ := k; exact ⟨_, Not_ev e, q⟩
theorem ow_and (k : OW (p ds) fun b => IW b (OW (p' ds) QB) (QB false)) : OW (gAnd p p' ds) QB := by
  obtain ⟨b, e, k1, k2⟩ := k
  unfold gAnd; rw [e]
  cases b with
  | true => exact k1 rfl
  | false => exact ⟨false, rfl, k2 rfl⟩
theorem ow_or (k : OW (p ds) fun b => IW b (QB true) (OW (p' ds) QB)) : OW (gOr p p' ds) QB := by
  obtain ⟨b, e, k1, k2⟩ := k
  unfold gOr; rw [e]
  cases b with
  | true => exact ⟨true, rfl, k1 rfl⟩
  | false => exact k2 rfl
theorem ow_andV (k : OW (a ds) fun x => OW (truD x) fun t => IW t (OW (b ds) Q) (Q x)) : OW (gAndV a b ds) Q := by
  obtain ⟨x, e, t, e2, k1, k2⟩ := k
  unfold gAndV; rw [e, Option.bind_some, e2, Option.bind_some]
  cases t with
  | true => exact k1 rfl
  | false => exact ⟨x, rfl, k2 rfl⟩
theorem ow_orV (k : OW (a ds) fun x => OW (truD x) fun t => IW t (Q x) (OW (b ds) Q)) : OW (gOrV a b ds) Q := by
  obtain ⟨x, e, t, e2, k1, k2⟩ := k
  unfold gOrV; rw [e, Option.bind_some, e2, Option.bind_some]
  cases t with
  | true => exact ⟨x, rfl, k1 rfl⟩
  | false => exact k2 rfl
theorem ow_notV (k : OW (a ds) fun x => OW (truD x) fun t => Q (.bool (!t))) : OW (gNotV a ds) Q := by
  obtain ⟨x, e, t, e2, q⟩ := k; exact ⟨_, NotV_ev e e2, q⟩
theorem ow_if (k : OW (p ds) fun t => IW t (OW (a ds) Q) (OW (b ds) Q)) : OW (gIf p a b ds) Q := by
  obtain ⟨t, e, k1, k2⟩ := k
  unfold gIf; rw [e]
  cases t with
  | true => exact k1 rfl
  | false => exact k2 rfl
theorem ow_chain {f f' : D → D → Option D} (k : OW (a ds) fun x => OW (b ds) fun y => OW (f x y) fun z => BW z fun t => IW t (OW (c ds) fun u => OW (f' y u) Q) (Q (.bool false))) : OW (gChain f f' a b c ds) Q := by
  obtain ⟨x, e1, y, e2, z, e3, t, rfl, k1, k2⟩ := k
  unfold gChain; rw [e1, Option.bind_some, e2, Option.bind_some, e3, Option.bind_some]
  cases t with
  | true =>
    obtain ⟨u, e4, v, e5, q⟩ := k1 rfl
    exact ⟨v, by show (c ds).bind _ = _; rw [e4]; exact e5, q⟩
  | false => exact ⟨_, rfl, k2 rfl⟩
theorem ow_noPart {QP : Option Int → Prop} (q : QP none) : OW (gNoPart (S := S) ds) QP := ⟨none, rfl, q⟩
theorem ow_part {QP : Option Int → Prop} (k : OW (g ds) fun x => IntW x fun i => QP (some i)) : OW (gPart g ds) QP := by
  obtain ⟨x, e, i, rfl, q⟩ := k; exact ⟨_, Part_ev e, q⟩
theorem ow_slA {l u : DS S → Option (Option Int)} (k : OW (a ds) fun x => OW (l ds) fun lo => OW (u ds) fun hi => OW (slA x lo hi) Q) : OW (gSlA a l u ds) Q := by
  obtain ⟨x, e1, lo, e2, hi, e3, z, e4, q⟩ := k; exact ⟨z, SlA_ev e1 e2 e3 e4, q⟩
theorem ow_call {f : List D → Option D} (k : OW (r ds) fun xs => OW (f xs) Q) : OW (gCall r f ds) Q := by
  obtain ⟨xs, e, z, e2, q⟩ := k; exact ⟨z, Call_ev e e2, q⟩
theorem ow_args {f : List D → Option (List D)} (k : OW (r ds) fun xs => OW (f xs) QL) : OW (gArgs r f ds) QL := by
  obtain ⟨xs, e, z, e2, q⟩ := k; exact ⟨z, Args_ev e e2, q⟩
theorem ow_src (k : OW (g ds) fun x => OW (srcD x) QL) : OW (gSrc g ds) QL := by
  obtain ⟨x, e, z, e2, q⟩ := k; exact ⟨z, Src_ev e e2, q⟩
theorem ow_split {f : DS S → Option D} (k : OW (a ds) fun x => OW (b ds) fun y => OW (splitD x y) QL) : OW (gSplit a b ds) QL := by
  obtain ⟨x, e1, y, e2, z, e3, q⟩ := k; exact ⟨z, by unfold gSplit; rw [e1, Option.bind_some, e2]; exact e3, q⟩
theorem ow_callP {n : Nat} {F : List D → Option (MO S)} (k : OW (r ds) fun as => AW (as.length = n) (OW (F as) fun m => OW (toD m) Q)) : OW (gCallP n F r ds) Q := by
  obtain ⟨as, e, n1, m, e2, d, e3, q⟩ := k; exact ⟨d, CallP_ev e n1 e2 e3, q⟩
theorem ow_toD {d : D} (q : Q d) : OW (toD (S := S) (.d d)) Q := ⟨d, rfl, q⟩
theorem ow_toK {kvs : List (Key × D)} (q : Q (.dict ((.none, .bool true) :: encKs kvs))) : OW (toD (S := S) (.dic kvs)) Q := ⟨_, rfl, q⟩
theorem ow_toL {xs : List D} (q : Q (.list xs)) : OW (toD (S := S) (.lst xs)) Q := ⟨_, rfl, q⟩
theorem ow_yes (q : QB true) : OW (gYes ds) QB := ⟨true, rfl, q⟩
theorem ow_isi {T : String} (k : OW (g ds) fun d => OW (kitB (tyD d) T) fun t => Q (.bool t)) : OW (gIsi T g ds) Q := by
  obtain ⟨d, e, t, e2, q⟩ := k; exact ⟨_, by unfold gIsi; rw [e, Option.bind_some, e2]; rfl, q⟩
theorem ow_lcAll {β : Type} (es : List β) (enc : β → D) (k : β → D) {own : List Nat} {t : D → Option (List (Nat × D))} (w : OW (r ds) fun xs => xs = es.map enc ∧ (∀ e ∈ es, OW (t (enc e)) fun as => OW (g (setD (wipeD ds own) as)) fun y => y = k e) ∧ QL (es.map k)) : OW (gLc r own t gYes g ds) QL := by
  obtain ⟨xs, e, rfl, h1, q⟩ := w
  refine ⟨_, LcAll_ev (k := k) e fun b hb => ?_, q⟩
  obtain ⟨as, h2, y, h3, rfl⟩ := h1 b hb
  exact ⟨as, h2, h3⟩
theorem ow_lcSome {β : Type} (es : List β) (enc : β → D) (P : β → Bool) (k : β → D) {own : List Nat} {t : D → Option (List (Nat × D))} (w : OW (r ds) fun xs => xs = es.map enc ∧ (∀ e ∈ es, OW (t (enc e)) fun as => OW (p (setD (wipeD ds own) as)) fun b => b = P e ∧ (P e = true → OW (g (setD (wipeD ds own) as)) fun y => y = k e)) ∧ QL ((es.filter P).map k)) : OW (gLc r own t p g ds) QL := by
  obtain ⟨xs, e, rfl, h1, q⟩ := w
  refine ⟨_, LcSome_ev (p := P) (k := k) e fun b hb => ?_, q⟩
  obtain ⟨as, h2, b2, h3, rfl, h4⟩ := h1 b hb
  refine ⟨as, h2, h3, fun hp => ?_⟩
  obtain ⟨y, h5, rfl⟩ := h4 hp
  exact h5
variable {X : D → DS S → Prop} {XL : List D → DS S → Prop} {XB : Bool → DS S → Prop} {XM : MO S → DS S → Prop} {XMs : List (MO S) → DS S → Prop} {f f' : XF S D} {fl : XF S (List D)} {fb fb' : XF S Bool} {fm : XF S (MO S)} {fms : XF S (List (MO S))}
theorem xw_P (k : OW (g (hideDS ds)) fun d => X d ds) : XW (xP g) ds X := by
  obtain ⟨d, e, q⟩ := k; exact ⟨d, ds, xP_ev e, q⟩
theorem xw_B (k : OW (g ds) fun d => AW (noList d = true) (X d ds)) : XW (xB g) ds X := by
  obtain ⟨d, e, n, q⟩ := k; exact ⟨d, ds, xB_ev e n, q⟩
theorem xw_oP (k : OW (r (hideDS ds)) fun xs => XM (.lst xs) ds) : XW (oP r) ds XM := by
  obtain ⟨d, e, q⟩ := k; exact ⟨_, ds, oP_ev e, q⟩
theorem xw_oB (k : OW (r ds) fun xs => AW (noListAll xs = true) (XM (.lst xs) ds)) : XW (oB r) ds XM := by
  obtain ⟨d, e, n, q⟩ := k; exact ⟨_, ds, oB_ev e n, q⟩
theorem xw_iP (k : OW (r (hideDS ds)) fun xs => XL xs ds) : XW (xiP r) ds XL := by
  obtain ⟨d, e, q⟩ := k; exact ⟨_, ds, xiP_ev e, q⟩
theorem xw_tP (k : OW (p ds) fun b => XB b ds) : XW (xtP p) ds XB := by
  obtain ⟨d, e, q⟩ := k; exact ⟨_, ds, xtP_ev e, q⟩
theorem xw_oX (k : XW f ds fun d ds1 => XM (.d d) ds1) : XW (oX f) ds XM := by
  obtain ⟨d, ds1, e, q⟩ := k; exact ⟨_, _, oX_ev e, q⟩
def toD0 : MO S → Option D
  | .d x => some x
  | .lst xs => some (.list xs)
  | _ => none
theorem ow_toD0 {d : D} (q : Q d) : OW (toD0 (S := S) (.d d)) Q := ⟨d, rfl, q⟩
theorem ow_toL0 {xs : List D} (q : Q (.list xs)) : OW (toD0 (S := S) (.lst xs)) Q := ⟨_, rfl, q⟩
theorem xw_O (k : XW fm ds fun m ds1 => OW (toD0 m) fun d => X d ds1) : XW (xO fm) ds X := by
  obtain ⟨m, ds1, e, d, e2, q⟩ := k
  cases m with
  | d x => cases e2; exact ⟨_, _, xOd_ev e, q⟩
  | lst xs => cases e2; exact ⟨_, _, xOl_ev e, q⟩
  | _ => cases e2
theorem xw_op {o : D → D → Option D} (k : XW f ds fun x ds1 => XW f' ds1 fun y ds2 => OW (o x y) fun z => X z ds2) : XW (xOp o f f') ds X := by
  obtain ⟨x, ds1, e, y, ds2, e2, z, e3, q⟩ := k; exact ⟨z, ds2, xOp_ev e e2 e3, q⟩
theorem xw_opF {o : D → D → Option (List D)} (k : XW f ds fun x ds1 => XW f' ds1 fun y ds2 => OW (o x y) fun z => XM (.lst z) ds2) : XW (xOpF o f f') ds XM := by
  obtain ⟨x, ds1, e, y, ds2, e2, z, e3, q⟩ := k; exact ⟨_, ds2, xb_ev e (xb_ev e2 (xlift_ev (by rw [e3]; rfl))), q⟩
theorem xw_un {o : D → Option D} (k : XW f ds fun x ds1 => OW (o x) fun z => X z ds1) : XW (xUn o f) ds X := by
  obtain ⟨x, ds1, e, z, e3, q⟩ := k; exact ⟨z, ds1, xb_ev e (xlift_ev e3), q⟩
theorem xw_nil (q : XL [] ds) : XW xNil ds XL := ⟨_, _, rfl, q⟩
theorem xw_cons (k : XW f ds fun x ds1 => XW fl ds1 fun xs ds2 => XL (x :: xs) ds2) : XW (xCons f fl) ds XL := by
  obtain ⟨x, ds1, e, y, ds2, e2, q⟩ := k; exact ⟨_, ds2, xCons_ev e e2, q⟩
theorem xw_oNil (q : XMs [] ds) : XW oNil ds XMs := ⟨_, _, rfl, q⟩
theorem xw_oCons (k : XW fm ds fun x ds1 => XW fms ds1 fun xs ds2 => XMs (x :: xs) ds2) : XW (oCons fm fms) ds XMs := by
  obtain ⟨x, ds1, e, y, ds2, e2, q⟩ := k; exact ⟨_, ds2, oCons_ev e e2, q⟩
theorem xw_tup (k : XW fl ds fun xs ds1 => AW (xs.length ≤ sizeLine) (X (.tuple xs) ds1)) : XW (xTup fl) ds X := by
  obtain ⟨x, ds1, e, z, q⟩ := k; exact ⟨_, ds1, xTup_ev e z, q⟩
theorem xw_lst (k : XW fl ds fun xs ds1 => AW (xs.length ≤ sizeLine) (XM (.lst xs) ds1)) : XW (xLst fl) ds XM := by
  obtain ⟨x, ds1, e, z, q⟩ := k; exact ⟨_, ds1, xLst_ev e z, q⟩
theorem xw_call {o : List D → Option D} (k : XW fl ds fun xs ds1 => OW (o xs) fun z => X z ds1) : XW (xCall fl o) ds X := by
  obtain ⟨x, ds1, e, z, e2, q⟩ := k; exact ⟨_, ds1, xCall_ev e e2, q⟩
theorem xw_callF {o : List D → Option (List D)} (k : XW fl ds fun xs ds1 => OW (o xs) fun z => XM (.lst z) ds1) : XW (xCallF fl o) ds XM := by
  obtain ⟨x, ds1, e, z, e2, q⟩ := k; exact ⟨_, ds1, xb_ev e (xlift_ev (by rw [e2]; rfl)), q⟩
theorem xw_args {o : List D → Option (List D)} (k : XW fl ds fun xs ds1 => OW (o xs) fun z => XL z ds1) : XW (xArgs fl o) ds XL := by
  obtain ⟨x, ds1, e, z, e2, q⟩ := k; exact ⟨_, ds1, xb_ev e (xlift_ev e2), q⟩
theorem xw_src (k : XW f ds fun x ds1 => OW (srcD x) fun z => XL z ds1) : XW (xSrc f) ds XL := by
  obtain ⟨x, ds1, e, z, e2, q⟩ := k; exact ⟨_, ds1, xb_ev e (xlift_ev e2), q⟩
theorem xw_tr (k : XW f ds fun x ds1 => OW (truD x) fun z => XB z ds1) : XW (xTr f) ds XB := by
  obtain ⟨x, ds1, e, z, e2, q⟩ := k; exact ⟨_, ds1, xb_ev e (xlift_ev e2), q⟩
theorem xw_bool (k : XW f ds fun x ds1 => BW x fun z => XB z ds1) : XW (xBool f) ds XB := by
  obtain ⟨x, ds1, e, z, rfl, q⟩ := k; exact ⟨_, ds1, xBool_ev e, q⟩
theorem xw_not (k : XW fb ds fun b ds1 => XB (!b) ds1) : XW (xNot fb) ds XB := by
  obtain ⟨x, ds1, e, q⟩ := k; exact ⟨_, ds1, xb_ev e (xlift_ev rfl), q⟩
theorem xw_an (k : XW fb ds fun b ds1 => IW b (XW fb' ds1 XB) (XB false ds1)) : XW (xAnd fb fb') ds XB := by
  obtain ⟨b, ds1, e, k1, k2⟩ := k
  cases b with
  | true => obtain ⟨b2, ds2, e2, q⟩ := k1 rfl; exact ⟨b2, ds2, xb_ev e e2, q⟩
  | false => exact ⟨false, ds1, xb_ev e rfl, k2 rfl⟩
theorem xw_or0 (k : XW fb ds fun b ds1 => IW b (XB true ds1) (XW fb' ds1 XB)) : XW (xOr fb fb') ds XB := by
  obtain ⟨b, ds1, e, k1, k2⟩ := k
  cases b with
  | false => obtain ⟨b2, ds2, e2, q⟩ := k2 rfl; exact ⟨b2, ds2, xb_ev e e2, q⟩
  | true => exact ⟨true, ds1, xb_ev e rfl, k1 rfl⟩
theorem xw_if (k : XW fb ds fun b ds1 => IW b (XW f ds1 X) (XW f' ds1 X)) : XW (xIf fb f f') ds X := by
  obtain ⟨b, ds1, e, k1, k2⟩ := k
  cases b with
  | true => obtain ⟨b2, ds2, e2, q⟩ := k1 rfl; exact ⟨b2, ds2, xb_ev e e2, q⟩
  | false => obtain ⟨b2, ds2, e2, q⟩ := k2 rfl; exact ⟨b2, ds2, xb_ev e e2, q⟩
theorem xw_orV (k : XW f ds fun x ds1 => OW (truD x) fun b => IW b (X x ds1) (XW f' ds1 X)) : XW (xOrV f f') ds X := by
  obtain ⟨x, ds1, e, b, e1, k1, k2⟩ := k
  cases b with
  | true => exact ⟨x, ds1, xb_ev e (xb_ev (xlift_ev e1) rfl), k1 rfl⟩
  | false => obtain ⟨b2, ds2, e2, q⟩ := k2 rfl; exact ⟨b2, ds2, xb_ev e (xb_ev (xlift_ev e1) e2), q⟩
theorem xw_mt {i : Nat} {o : List D → List D → Option (D × List D)} {xs0 : List D} (e0 : lstAt ds i = some xs0) (k : XW fl ds fun as ds1 => OW (lstAt ds1 i) fun xs => PW2 (o xs as) fun d ys => SetW ds1 i (some (.lst ys)) fun ds2 => X d ds2) : XW (xMt i o fl) ds X := by
  obtain ⟨as, ds1, e, xs, e1, d, ys, e2, q⟩ := k; exact ⟨d, _, xMt_ev e0 e e1 e2, q⟩
theorem ow_lstAt {i : Nat} {xs : List D} (e : lstAt ds i = some xs) (q : QL xs) : OW (lstAt ds i) QL := ⟨xs, e, q⟩
theorem ow_stAt {i : Nat} {s : S} {Z : S → Prop} (e : stAt ds i = some s) (q : Z s) : OW (stAt ds i) Z := ⟨s, e, q⟩
theorem xw_cP {n : Nat} {F : List D → Option (MO S)} (k : XW fl ds fun as ds1 => AW (as.length = n) (OW (F as) fun m => XM m ds1)) : XW (oCallP n F fl) ds XM := by
  obtain ⟨as, ds1, e, n1, m, e2, q⟩ := k; exact ⟨m, _, callP_ev e n1 e2, q⟩
theorem xw_cS {n i : Nat} {F : S → List D → Option (MO S × S)} {s0 : S} (e0 : stAt ds i = some s0) (k : XW fl ds fun as ds1 => OW (stAt ds1 i) fun s => AW (as.length + 1 = n) (PW2 (F s as) fun m s' => SetW ds1 i (some (.st s')) fun ds2 => XM m ds2)) : XW (oCallS n i F fl) ds XM := by
  obtain ⟨as, ds1, e, s, e1, n1, m, s', e2, q⟩ := k; exact ⟨m, _, callS_ev e0 e e1 n1 e2, q⟩
theorem xw_cC {n i : Nat} {F : List Int → List D → Option (MO S)} {ns : List Int} (e0 : scrAt ds i = some ns) (k : XW fl ds fun as ds1 => AW (as.length + 1 = n) (OW (F ns as) fun m => XM m ds1)) : XW (oCallC n i F fl) ds XM := by
  obtain ⟨as, ds1, e, n1, m, e2, q⟩ := k
  exact ⟨m, ds1, by unfold oCallC; rw [e0, Option.bind_some]; exact xb_ev e (by rw [if_pos n1, e2]; rfl), q⟩
theorem xw_yes (q : XB true ds) : XW xYes ds XB := ⟨_, _, rfl, q⟩
variable {N : DS S → Prop} {R : MO S → DS S → Prop} {B C : DS S → Prop} {u v : SF S}
theorem sw_seq (k : SW u ds (fun ds1 => SW v ds1 N R B C) R B C) : SW (gSeq u v) ds N R B C := by
  obtain ⟨o, e, q⟩ := k
  unfold SW gSeq
  rw [e]
  cases o with
  | nx d => exact q
  | rt m d => exact ⟨_, rfl, q⟩
  | bk d => exact ⟨_, rfl, q⟩
  | ct d => exact ⟨_, rfl, q⟩
theorem sw_next (q : N ds) : SW gNext ds N R B C := ⟨_, rfl, q⟩
theorem sw_ret (k : XW fm ds R) : SW (gRet fm) ds N R B C := by
  obtain ⟨m, ds1, e, q⟩ := k; exact ⟨_, ret_ev e, q⟩
theorem sw_retN (q : R (.d .none) ds) : SW gRetN ds N R B C := ⟨_, rfl, q⟩
theorem sw_brk (q : B ds) : SW gBrk ds N R B C := ⟨_, rfl, q⟩
theorem sw_cnt (q : C ds) : SW gCnt ds N R B C := ⟨_, rfl, q⟩
theorem sw_asg {i : Nat} (k : XW fm ds fun m ds1 => SetW ds1 i (some m) N) : SW (gAsg i fm) ds N R B C := by
  obtain ⟨m, ds1, e, q⟩ := k; exact ⟨_, asg_ev e, q⟩
theorem sw_drop (k : XW f ds fun _ ds1 => N ds1) : SW (gDrop f) ds N R B C := by
  obtain ⟨m, ds1, e, q⟩ := k; exact ⟨_, drop_ev e, q⟩
theorem sw_if (k : XW fb ds fun b ds1 => IW b (SW u ds1 N R B C) (SW v ds1 N R B C)) : SW (gIfS fb u v) ds N R B C := by
  obtain ⟨b, ds1, e, k1, k2⟩ := k
  cases b with
  | true => obtain ⟨o, e2, q⟩ := k1 rfl; exact ⟨o, ifT_ev e e2, q⟩
  | false => obtain ⟨o, e2, q⟩ := k2 rfl; exact ⟨o, ifF_ev e e2, q⟩
theorem sw_asgT {t : D → Option (List (Nat × D))} (k : XW f ds fun d ds1 => OW (t d) fun as => SetDW ds1 as N) : SW (gAsgT t f) ds N R B C := by
  obtain ⟨d, ds1, e, as, e2, q⟩ := k; exact ⟨_, asgT_ev e e2, q⟩
theorem sw_par2 {i j : Nat} (k : XW fms ds fun ms ds1 => ∃ x y, ms = [x, y] ∧ SetW ds1 i (some x) fun ds2 => SetW ds2 j (some y) N) : SW (gPar2 i j fms) ds N R B C := by
  obtain ⟨ms, ds1, e, x, y, rfl, q⟩ := k; exact ⟨_, par2_ev e, q⟩
theorem sw_par3 {i j l : Nat} (k : XW fms ds fun ms ds1 => ∃ x y z, ms = [x, y, z] ∧ SetW ds1 i (some x) fun ds2 => SetW ds2 j (some y) fun ds3 => SetW ds3 l (some z) N) : SW (gPar3 i j l fms) ds N R B C := by
  obtain ⟨ms, ds1, e, x, y, z, rfl, q⟩ := k; exact ⟨_, par3_ev e, q⟩
theorem sw_parN {is : List Nat} (k : XW fms ds fun ms ds1 => AW (ms.length = is.length) (AW (ms.length ≤ sizeLine) (SetMW ds1 is ms N))) : SW (gParN is fms) ds N R B C := by
  obtain ⟨ms, ds1, e, h1, h2, q⟩ := k; exact ⟨_, parN_ev e h1 h2, q⟩
theorem ex2_mk {x y : MO S} {Z : MO S → MO S → Prop} (q : Z x y) : ∃ x' y', [x, y] = [x', y'] ∧ Z x' y' := ⟨x, y, rfl, q⟩
theorem ex3_mk {x y z : MO S} {Z : MO S → MO S → MO S → Prop} (q : Z x y z) : ∃ x' y' z', [x, y, z] = [x', y', z'] ∧ Z x' y' z' := ⟨x, y, z, rfl, q⟩
theorem sw_setI {j : Nat} {gi : DS S → Option D} (k : XW f ds fun d ds1 => OW (gi ds1) fun y => IntW y fun n => OW (lstAt ds1 j) fun xs => OW (ixN xs.length n) fun i => SetW ds1 j (some (.lst (xs.set i d))) N) : SW (gSetI j f gi) ds N R B C := by
  obtain ⟨d, ds1, e, y, e2, n, rfl, xs, e3, i, e4, q⟩ := k
  exact ⟨.nx (ds1.set j (some (.lst (xs.set i d)))), by unfold gSetI; rw [e, Option.bind_some]; dsimp only; rw [e2, Option.bind_some]; dsimp only; rw [e3, Option.bind_some, e4]; rfl, q⟩
theorem sw_for {src : XF S (List D)} {t : D → Option (List (Nat × D))} (k : XW src ds fun xs ds1 => FW t u xs ds1 N R) : SW (gFor src t u) ds N R B C := by
  obtain ⟨xs, ds1, e, o, e2, q⟩ := k
  refine ⟨o, DL.for_ev e e2, ?_⟩
  cases o with
  | nx d => exact q
  | rt m d => exact q
  | bk d => exact q.elim
  | ct d => exact q.elim
theorem fw_nil {t : D → Option (List (Nat × D))} (q : N ds) : FW t u [] ds N R := ⟨_, rfl, q⟩
theorem fw_cons {t : D → Option (List (Nat × D))} {x : D} {xs : List D} (k : OW (t x) fun as => SetDW ds as fun ds' => SW u ds' (fun d => FW t u xs d N R) R N (fun d => FW t u xs d N R)) : FW t u (x :: xs) ds N R := by
  obtain ⟨as, h1, o, h2, q⟩ := k
  unfold FW forRun
  rw [h1, Option.bind_some, h2, Option.bind_some]
  cases o with
  | nx d => exact q
  | ct d => exact q
  | rt m d => exact ⟨_, rfl, q⟩
  | bk d => exact ⟨_, rfl, q⟩
theorem fw_goK {t : D → Option (List (Nat × D))} {enc : γ → D} (Inv : Nat → DS S → Prop) : ∀ (es : List γ) (k : Nat) (ds : DS S), Inv k ds →
    (∀ n e, es[n]? = some e → ∀ ds, Inv (k + n) ds → OW (t (enc e)) fun as => SetDW ds as fun ds' => SW u ds' (Inv (k + n + 1)) R N (Inv (k + n + 1))) →
    (∀ ds, Inv (k + es.length) ds → N ds) → FW t u (es.map enc) ds N R
  | [], k, ds, h0, _, hN => fw_nil (hN ds h0)
  | e :: es, k, ds, h0, hs, hN => by
    refine fw_cons ?_
    have go : ∀ d, Inv (k + 1) d → FW t u (es.map enc) d N R := fun d hd => fw_goK Inv es (k + 1) d hd (fun n x hx ds hds => by
      have := hs (n + 1) x (by simpa using hx) ds (by rw [show k + (n + 1) = k + 1 + n from by omega]; exact hds)
      rw [show k + (n + 1) = k + 1 + n from by omega] at this
      exact this) fun d h => hN d (by rw [List.length_cons, show k + (es.length + 1) = k + 1 + es.length from by omega]; exact h)
    refine ow_imp (hs 0 e rfl ds h0) fun as h => ?_
    exact sw_imp (R := R) h (fun d h => go d h) (fun _ _ h => h) (fun _ h => h) fun d h => go d h
theorem fw_map {t : D → Option (List (Nat × D))} {enc : γ → D} {es : List γ} (Inv : Nat → DS S → Prop) (h0 : Inv 0 ds)
    (hs : ∀ n e, es[n]? = some e → ∀ ds, Inv n ds → OW (t (enc e)) fun as => SetDW ds as fun ds' => SW u ds' (Inv (n + 1)) R N (Inv (n + 1)))
    (hN : ∀ ds, Inv es.length ds → N ds) : FW t u (es.map enc) ds N R :=
  fw_goK Inv es 0 ds h0 (fun n e he ds h => by rw [Nat.zero_add] at h ⊢; exact hs n e he ds h) fun d h => hN d (by rw [Nat.zero_add] at h; exact h)
theorem fw_xs {t : D → Option (List (Nat × D))} {xs : List D} {enc : γ → D} (es : List γ) (ex : xs = es.map enc) (Inv : Nat → DS S → Prop) (h0 : Inv 0 ds)
    (hs : ∀ n e, es[n]? = some e → ∀ ds, Inv n ds → OW (t (enc e)) fun as => SetDW ds as fun ds' => SW u ds' (Inv (n + 1)) R N (Inv (n + 1)))
    (hN : ∀ ds, Inv es.length ds → N ds) : FW t u xs ds N R := by subst ex; exact fw_map Inv h0 hs hN
theorem ow_asgT {t : D → Option (List (Nat × D))} {d : D} {as : List (Nat × D)} {Z : List (Nat × D) → Prop} (e : t d = some as) (q : Z as) : OW (t d) Z := ⟨as, e, q⟩
theorem sw_while {n : Nat} {cnd : XF S Bool} (Inv : Nat → DS S → Prop) (m : Nat) (hm : m < n) (h0 : Inv m ds)
    (hs : ∀ k ds, Inv k ds → XW cnd ds fun b ds1 => IW b (SW u ds1 (fun d => ∃ j, j < k ∧ Inv j d) R N (fun d => ∃ j, j < k ∧ Inv j d)) (N ds1)) : SW (gWhile n cnd u) ds N R B C := by
  have go : ∀ (f k : Nat) (ds : DS S), k < f → Inv k ds → ∃ o, whileRun cnd u f ds = some o ∧ SEndW N R (fun _ => False) (fun _ => False) o := by
    intro f
    induction f with
    | zero => intro k ds h; omega
    | succ f ih =>
      intro k ds h hi
      obtain ⟨b, ds1, e, k1, k2⟩ := hs k ds hi
      unfold whileRun
      rw [e, Option.bind_some]
      cases b with
      | false => exact ⟨_, rfl, k2 rfl⟩
      | true =>
        obtain ⟨o, e2, q⟩ := k1 rfl
        rw [if_pos rfl]
        dsimp only
        rw [e2, Option.bind_some]
        cases o with
        | nx d => obtain ⟨j, h1, h2⟩ := q; exact ih j d (by omega) h2
        | ct d => obtain ⟨j, h1, h2⟩ := q; exact ih j d (by omega) h2
        | rt m d => exact ⟨_, rfl, q⟩
        | bk d => exact ⟨_, rfl, q⟩
  obtain ⟨o, e, q⟩ := go n m ds hm h0
  refine ⟨o, e, ?_⟩
  cases o with
  | nx d => exact q
  | rt m d => exact q
  | bk d => exact q.elim
  | ct d => exact q.elim
theorem ow_runP {n : Nat} {as : List D} {Z : MO S → Prop} (d0 : DS S) (e0 : startD n (as.map .d) = d0) (k : SW u d0 (fun _ => Z (.d .none)) (fun m _ => Z m) (fun _ => False) (fun _ => False)) : OW (runP n u as) Z := by
  subst e0
  obtain ⟨o, e, q⟩ := k
  unfold runP
  rw [e]
  cases o with
  | nx d => exact ⟨_, rfl, q⟩
  | rt m d => exact ⟨_, rfl, q⟩
  | bk d => exact q.elim
  | ct d => exact q.elim
theorem pw_runS {n : Nat} {s : S} {as : List D} {Z : MO S → S → Prop} (d0 : DS S) (e0 : startD n (.st s :: as.map .d) = d0) (k : SW u d0 (fun ds => OW (stAt ds 0) fun s' => Z (.d .none) s') (fun m ds => OW (stAt ds 0) fun s' => Z m s') (fun _ => False) (fun _ => False)) : PW2 (runS n u s as) Z := by
  subst e0
  obtain ⟨o, e, q⟩ := k
  unfold runS
  rw [e]
  cases o with
  | nx d => obtain ⟨s', e2, q⟩ := q; exact ⟨_, s', by show (stAt d 0).map _ = _; rw [e2]; rfl, q⟩
  | rt m d => obtain ⟨s', e2, q⟩ := q; exact ⟨_, s', by show (stAt d 0).map _ = _; rw [e2]; rfl, q⟩
  | bk d => exact q.elim
  | ct d => exact q.elim
theorem ow_runC {n : Nat} {ns : List Int} {as : List D} {Z : MO S → Prop} (d0 : DS S) (e0 : startD n (.scr ns :: as.map .d) = d0) (k : SW u d0 (fun _ => Z (.d .none)) (fun m _ => Z m) (fun _ => False) (fun _ => False)) : OW (runC n u ns as) Z := by
  subst e0
  obtain ⟨o, e, q⟩ := k
  unfold runC
  rw [e]
  cases o with
  | nx d => exact ⟨_, rfl, q⟩
  | rt m d => exact ⟨_, rfl, q⟩
  | bk d => exact q.elim
  | ct d => exact q.elim
theorem ow_get {o : Option α} {x : α} (h : OW o fun y => y = x) : o = some x := by obtain ⟨y, e, rfl⟩ := h; exact e
end
section
variable {Q : D → Prop} {QL : List D → Prop} {QB : Bool → Prop} {QP : D → List D → Prop}
theorem ow_add {i j : Int} (q : Q (.int (i + j))) : OW (addA (.int i) (.int j)) Q := ⟨_, rfl, q⟩
theorem ow_addL {xs ys : List D} (z : xs.length + ys.length ≤ sizeLine) (q : Q (.list (xs ++ ys))) : OW (addA (.list xs) (.list ys)) Q := ⟨_, by unfold addA; dsimp only; unfold addL; dsimp only; rw [if_pos z]; rfl, q⟩
theorem ow_sub {i j : Int} (q : Q (.int (i - j))) : OW (subD (.int i) (.int j)) Q := ⟨_, rfl, q⟩
theorem ow_mulL {i j : Int} (h : -(2 ^ 64) < i ∧ i < 2 ^ 64) (q : Q (.int (i * j))) : OW (mulD (.int i) (.int j)) Q := ⟨_, by unfold mulD; dsimp only; rw [if_pos (.inl h)], q⟩
theorem ow_mulR {i j : Int} (h : -(2 ^ 64) < j ∧ j < 2 ^ 64) (q : Q (.int (i * j))) : OW (mulD (.int i) (.int j)) Q := ⟨_, by unfold mulD; dsimp only; rw [if_pos (.inr h)], q⟩
theorem ow_mod {i j : Int} (h : 0 < j) (q : Q (.int (i % j))) : OW (modD (.int i) (.int j)) Q := ⟨_, by unfold modD; dsimp only; rw [if_pos h], q⟩
theorem ow_div {i j : Int} (h1 : 0 < j) (h2 : j < 2 ^ 100) (q : Q (.int (i / j))) : OW (divD (.int i) (.int j)) Q := by
  have h3 : j.natAbs < 2 ^ 100 := by omega
  have h4 : j.natAbs.log2 < 100 := (Nat.log2_lt (by omega)).mpr h3
  exact ⟨_, by unfold divD; dsimp only; rw [if_pos ⟨h1, Nat.lt_trans h4 (by decide)⟩], q⟩
theorem ow_neg {i : Int} (q : Q (.int (-i))) : OW (negD (.int i)) Q := ⟨_, rfl, q⟩
theorem ow_lt {i j : Int} (q : Q (.bool (decide (i < j)))) : OW (ltD (.int i) (.int j)) Q := ⟨_, rfl, q⟩
theorem ow_le {i j : Int} (q : Q (.bool (decide (i ≤ j)))) : OW (leD (.int i) (.int j)) Q := ⟨_, rfl, q⟩
theorem ow_gt {i j : Int} (q : Q (.bool (decide (j < i)))) : OW (gtD (.int i) (.int j)) Q := ⟨_, rfl, q⟩
theorem ow_ge {i j : Int} (q : Q (.bool (decide (j ≤ i)))) : OW (geD (.int i) (.int j)) Q := ⟨_, rfl, q⟩
theorem ow_eqI {i j : Int} (q : Q (.bool (decide (i = j)))) : OW (eqD (.int i) (.int j)) Q := ⟨_, by
  show some (PyData.bool (i == j)) = _
  rw [show (i == j) = decide (i = j) from by by_cases h : i = j <;> simp [h]], q⟩
theorem ow_neI {i j : Int} (q : Q (.bool (!decide (i = j)))) : OW (neD (.int i) (.int j)) Q := ⟨_, by
  show some (PyData.bool (!(i == j))) = _
  rw [show (i == j) = decide (i = j) from by by_cases h : i = j <;> simp [h]], q⟩
theorem ow_eqS {x y : Str} (q : Q (.bool (decide (x = y)))) : OW (eqD (.str x) (.str y)) Q := ⟨_, by
  show some (PyData.bool (x == y)) = _
  rw [show (x == y) = decide (x = y) from by by_cases h : x = y <;> simp [h]], q⟩
theorem ow_neS {x y : Str} (q : Q (.bool (!decide (x = y)))) : OW (neD (.str x) (.str y)) Q := ⟨_, by
  show some (PyData.bool (!(x == y))) = _
  rw [show (x == y) = decide (x = y) from by by_cases h : x = y <;> simp [h]], q⟩
theorem ow_isN_n (q : Q (.bool true)) : OW (isND .none .none) Q := ⟨_, rfl, q⟩
theorem ow_isN_i {i : Int} (q : Q (.bool false)) : OW (isND (.int i) .none) Q := ⟨_, rfl, q⟩
theorem ow_notN_n (q : Q (.bool false)) : OW (notND .none .none) Q := ⟨_, rfl, q⟩
theorem ow_notN_i {i : Int} (q : Q (.bool true)) : OW (notND (.int i) .none) Q := ⟨_, rfl, q⟩
theorem ow_notN_s {i : Str} (q : Q (.bool true)) : OW (notND (.str i) .none) Q := ⟨_, rfl, q⟩
theorem ow_ix {x y z : D} (e : ixD x y = some z) (q : Q z) : OW (ixD x y) Q := ⟨z, e, q⟩
theorem atI_0 {x : D} {xs : List D} : atI (x :: xs) 0 = some x := by
  unfold atI ixN
  rw [if_pos (Int.le_refl 0), if_pos (by simp only [List.length_cons]; omega)]
  rfl
theorem ow_ix0L {x : D} {xs : List D} (q : Q x) : OW (ixD (.list (x :: xs)) (.int 0)) Q := ⟨x, atI_0, q⟩
theorem ow_ix0T {x : D} {xs : List D} (q : Q x) : OW (ixD (.tuple (x :: xs)) (.int 0)) Q := ⟨x, atI_0, q⟩
theorem ow_lenLm {α : Type} {f : α → D} {l : List α} (q : Q (.int (l.length : Nat))) : OW (lenD [.list (l.map f)]) Q := ⟨_, by show some (PyData.int ((l.map f).length : Nat)) = _; rw [List.length_map], q⟩
theorem ow_lenTm {α : Type} {f : α → D} {l : List α} (q : Q (.int (l.length : Nat))) : OW (lenD [.tuple (l.map f)]) Q := ⟨_, by show some (PyData.int ((l.map f).length : Nat)) = _; rw [List.length_map], q⟩
theorem ow_lenL {l : List D} (q : Q (.int (l.length : Nat))) : OW (lenD [.list l]) Q := ⟨_, rfl, q⟩
theorem ow_lenT {l : List D} (q : Q (.int (l.length : Nat))) : OW (lenD [.tuple l]) Q := ⟨_, rfl, q⟩
theorem ow_lenS {x : Str} (q : Q (.int (x.length : Nat))) : OW (lenD [.str x]) Q := ⟨_, rfl, q⟩
theorem ow_tupleL {xs : List D} (q : Q (.tuple xs)) : OW (tupleD [.list xs]) Q := ⟨_, rfl, q⟩
theorem ow_tupleT {xs : List D} (q : Q (.tuple xs)) : OW (tupleD [.tuple xs]) Q := ⟨_, rfl, q⟩
theorem ow_listL {xs : List D} (q : QL xs) : OW (listD [.list xs]) QL := ⟨_, rfl, q⟩
theorem ow_listT {xs : List D} (q : QL xs) : OW (listD [.tuple xs]) QL := ⟨_, rfl, q⟩
theorem ow_srcL {xs : List D} (q : QL xs) : OW (srcD (.list xs)) QL := ⟨_, rfl, q⟩
theorem ow_srcT {xs : List D} (q : QL xs) : OW (srcD (.tuple xs)) QL := ⟨_, rfl, q⟩
theorem ow_truB {b : Bool} (q : QB b) : OW (truD (.bool b)) QB := ⟨_, rfl, q⟩
theorem ow_intB {b : Bool} (q : Q (.int (if b then 1 else 0))) : OW (intD [.bool b]) Q := ⟨_, by cases b <;> rfl, q⟩
theorem ow_min {i j : Int} (q : Q (.int (if j < i then j else i))) : OW (min2 [.int i, .int j]) Q := ⟨_, rfl, q⟩
theorem ow_max {i j : Int} (q : Q (.int (if j > i then j else i))) : OW (max2 [.int i, .int j]) Q := ⟨_, rfl, q⟩
theorem rngD0 (n : Nat) : rngD 0 n = (List.range n).map fun k : Nat => PyData.int (k : Nat) := by
  show (List.range n).map (fun k : Nat => PyData.int ((0 : Int) + (k : Int))) = _
  refine List.map_congr_left fun k _ => ?_
  rw [Int.zero_add]
theorem ow_rng1 {n : Nat} (h : n ≤ 1000000) (q : QL ((List.range n).map fun k : Nat => PyData.int (k : Nat))) : OW (rng1 [.int (n : Int)]) QL := ⟨_, by
  unfold rng1
  dsimp only
  have : (1000000 : Int) ≤ sizeLine := by decide
  rw [if_pos ⟨by omega, by omega⟩, Int.toNat_natCast, rngD0], q⟩
theorem ow_app {xs : List D} {x : D} (h : xs.length < sizeLine) (q : QP .none (xs ++ [x])) : PW2 (appD xs [x]) QP := ⟨_, _, by unfold appD; dsimp only; rw [if_pos h], q⟩
theorem ow_appm {α : Type} {f : α → D} {xs : List α} {x : D} (h : xs.length < 1000000) (q : QP .none (xs.map f ++ [x])) : PW2 (appD (xs.map f) [x]) QP := ow_app (by have : (1000000 : Nat) ≤ sizeLine := (by decide); rw [List.length_map]; omega) q
end
end
section
variable {TBL : TabL}
section
variable {S : Type} {ds ds1 ds2 : DS S} {Q : D → Prop} {X : D → DS S → Prop} {XM : MO S → DS S → Prop} {N : DS S → Prop} {R : MO S → DS S → Prop} {B C : DS S → Prop}
theorem ow_dget {j : Nat} {g : DS S → Option D} {kvs : List (Key × D)} (e0 : dicLs ds j = some kvs) (k : OW (g ds) fun x => OW (keyOf1 x) fun k => OW (lookD kvs k) Q) : OW (gDGet j g ds) Q := by
  obtain ⟨x, e1, k, e2, d, e3, q⟩ := k
  exact ⟨d, by unfold gDGet gDLook; rw [e0, Option.bind_some, e1, Option.bind_some, e2]; show (some (lookD kvs k)).bind id = _; rw [e3]; rfl, q⟩
theorem ow_din {j : Nat} {b : Bool} {g : DS S → Option D} {kvs : List (Key × D)} (e0 : dicLs ds j = some kvs) (k : OW (g ds) fun x => OW (keyOf1 x) fun k => Q (.bool (if b then (lookD kvs k).isSome else !(lookD kvs k).isSome))) : OW (gDIn b j g ds) Q := by
  obtain ⟨x, e1, k, e2, q⟩ := k
  exact ⟨_, by unfold gDIn gDLook; rw [e0, Option.bind_some, e1, Option.bind_some, e2]; rfl, q⟩
theorem ow_keyS {x : Str} {Z : Key → Prop} (q : Z (.inr x)) : OW (keyOf1 (.str x)) Z := ⟨_, rfl, q⟩
theorem ow_keyI {x : Int} {Z : Key → Prop} (q : Z (.inl x)) : OW (keyOf1 (.int x)) Z := ⟨_, rfl, q⟩
theorem xw_dict {f : XF S D} (k : XW f ds fun x ds1 => OW (dictD x) fun ms => XM (.dic ms) ds1) : XW (oDict f) ds XM := by
  obtain ⟨x, ds1, e, ms, e2, q⟩ := k; exact ⟨_, ds1, xb_ev e (xlift_ev (by rw [e2]; rfl)), q⟩
theorem xw_dictNew (q : XM (.dic []) ds) : XW oDictNew ds XM := ⟨_, _, rfl, q⟩
theorem xw_dItems {j : Nat} {kvs : List (Key × D)} (e0 : dicKs ds j = some kvs) (k : AW (kvs.length ≤ sizeLine) (XM (.lst (kvs.map encKV)) ds)) : XW (oDItems j) ds XM := ⟨_, ds, by unfold oDItems; rw [e0, Option.bind_some, if_pos k.1], k.2⟩
theorem sw_dput {j : Nat} {f : XF S D} {g : DS S → Option D} (k : XW f ds fun d ds1 => OW (dicKs ds1 j) fun kvs => OW (g (hideDS ds1)) fun x => OW (keyOf1 x) fun k => AW (kvs.length < sizeLine) (SetW ds1 j (some (.dic (putD kvs k d))) N)) : SW (gDPut j f g) ds N R B C := by
  obtain ⟨d, ds1, e, kvs, e1, x, e2, k, e3, z, q⟩ := k
  exact ⟨.nx (ds1.set j (some (.dic (putD kvs k d)))), by unfold gDPut; rw [e, Option.bind_some]; dsimp only; rw [e1, Option.bind_some, e2, Option.bind_some, e3, Option.bind_some, if_pos z], q⟩
theorem ow_dicKs {j : Nat} {kvs : List (Key × D)} {Z : List (Key × D) → Prop} (e : dicKs ds j = some kvs) (q : Z kvs) : OW (dicKs ds j) Z := ⟨kvs, e, q⟩
theorem xw_move {i : Nat} {xs : List D} (e : ds[i]? = some (some (.lst xs))) (k : SetW ds i none fun ds1 => XM (.lst xs) ds1) : XW (oMove i) ds XM := ⟨_, _, by unfold oMove; rw [e], k⟩
theorem xw_andV {f f' : XF S D} (k : XW f ds fun x ds1 => OW (truD x) fun t => IW t (XW f' ds1 X) (X x ds1)) : XW (xAndV f f') ds X := by
  obtain ⟨x, ds1, e, t, e1, k1, k2⟩ := k
  cases t with
  | true => obtain ⟨y, ds2, e2, q⟩ := k1 rfl; exact ⟨y, ds2, xb_ev e (xb_ev (xlift_ev e1) e2), q⟩
  | false => exact ⟨x, ds1, xb_ev e (xb_ev (xlift_ev e1) rfl), k2 rfl⟩
theorem iw_nT {P Q : Prop} (q : Q) : IW (!true) P Q := iw_f rfl q
theorem iw_nF {P Q : Prop} (p : P) : IW (!false) P Q := iw_t rfl p
end
theorem raiseF_ev {S : Type} {ds ds1 : DS S} {x f : Str} {fs : XF S (List D)} {y : D} (e : fs ds = some ([y], ds1)) : gRaiseF x f fs ds = some (.ex ⟨x, some (f, y)⟩ ds1) := by unfold gRaiseF; rw [e]; rfl
theorem noneE_st {j : Nat} {ds : DS Exc} {s : Exc} (e : ds[j]? = some (some (.st s))) : xtNoneE j ds = some (false, ds) := by unfold xtNoneE; rw [e]
theorem noneE_no {j : Nat} {ds : DS Exc} (e : ds[j]? = some (some (.d .none))) : xtNoneE j ds = some (true, ds) := by unfold xtNoneE; rw [e]
end
theorem ow_runD {n : Nat} {gg : Except Exc D → SF Exc} {q : Except Exc D} {Q : MO St2 → Prop} (ds : DS Exc) (h : startD n [.st mark] = ds) (k : SW (gg q) ds (fun _ => OW (toM2 (.d .none)) Q) (fun m _ => OW (toM2 m) Q) (fun _ => False) (fun _ => False)) : OW (runD n gg q) Q := by
  subst h
  obtain ⟨o, e, z⟩ := k
  unfold runD
  rw [e, Option.bind_some]
  cases o with
  | nx d => exact z
  | rt m d => exact z
  | bk d => exact False.elim z
  | ct d => exact False.elim z
section
variable {kn : List Str} {i j : Nat} {jo : Option Nat} {r : SF Exc} {ds : DS Exc} {Rt : MO Exc → Prop}
theorem gFin_w {o : Option (Out Exc)} {ds0 : DS Exc} (e : r ds0 = o) (k : SW r ds0 (fun _ => False) (fun m _ => dataM m = true ∧ Rt m) (fun _ => False) (fun _ => False)) : ∃ m ds2, gFin (r ds0) = some (.rt m ds2) ∧ Rt m := by
  obtain ⟨o1, e1, z⟩ := k
  cases o1 with
  | rt m d =>
    refine ⟨m, d.map fun _ => none, ?_, z.2⟩
    unfold gFin
    rw [e1, Option.bind_some]
    dsimp only
    rw [if_pos z.1]
  | nx d => exact False.elim z
  | bk d => exact False.elim z
  | ct d => exact False.elim z
theorem sw_tryD_ok {d : D} (mk : Exc) (h0 : stAt ds 0 = some mk) (k : SW r (setO (onlyD ds) jo d) (fun _ => False) (fun m _ => dataM m = true ∧ Rt m) (fun _ => False) (fun _ => False)) :
    SW (gTryD kn i j jo (.ok d) r) ds (fun _ => False) (fun m _ => Rt m) (fun _ => False) (fun _ => False) := by
  obtain ⟨m, ds2, e, q⟩ := gFin_w rfl k
  exact ⟨.rt m ds2, by unfold gTryD; rw [h0, Option.bind_some]; exact e, q⟩
theorem sw_tryD_ex {x : Exc} (mk : Exc) (h0 : stAt ds 0 = some mk) (h1 : x.nm ∈ kn ∧ i < ds.length) (k : SW r ((((onlyD ds : DS Exc).set i (some (.st x))).set j (some (.st x))).set i none) (fun _ => False) (fun m _ => dataM m = true ∧ Rt m) (fun _ => False) (fun _ => False)) :
    SW (gTryD kn i j jo (.error x) r) ds (fun _ => False) (fun m _ => Rt m) (fun _ => False) (fun _ => False) := by
  obtain ⟨m, ds2, e, q⟩ := gFin_w rfl k
  exact ⟨.rt m ds2, by unfold gTryD; rw [h0, Option.bind_some]; dsimp only; rw [if_pos h1]; exact e, q⟩
end
theorem deed_eq {S : Type} {n : Nat} {F : List D → Option (Except Exc (MO St2))} {fs : XF St2 (List D)} {Fd : Except Exc D → Option (MO St2)} {ds : DS S} {as : List D} {ds' : DS St2} {r0 : Except Exc (MO St2)} {y : Except Exc D} {m : MO St2} {v : D}
    (h1 : fs (pureD ds) = some (as, ds')) (h2 : as.length = n) (h3 : F as = some r0) (h4 : exD r0 = some y) (h5 : Fd y = some m) (h6 : toDL m = some v) : gDeed (eCall n F fs) Fd ds = some v := by
  unfold gDeed eCall
  rw [h1, Option.bind_some]
  dsimp only
  rw [if_pos h2, h3, Option.bind_some, h4]
  dsimp only [Option.map]
  rw [Option.bind_some, h5, Option.bind_some, h6]
end DL
set_option Elab.async false
set_option linter.all false
set_option maxRecDepth 100000
set_option maxHeartbeats 4000000
namespace LAW
open PySem PySem.Spec L2 DL PyProof.Rows
structure Pitch where
  name : Str
  size : Int
  marks : List Str
  sorts : List Str
structure Gd where
  ps : List Pitch
  close : List (Nat × Nat)
  bars : List D
inductive Ev where
  | shut (d : Int) (p : Str) (t : Int)
  | joined (d : Int) (a b : Str) (t : Int)
  | other (w : Str) (rest : List D)
theorem strNe {x y : Str} (h : x ≠ y) : (x == y) = false := by simpa using h
theorem leD_int (a b : Int) : leD (.int a) (.int b) = some (.bool (decide (a ≤ b))) := rfl
theorem anyEq_strs (x : Str) : ∀ ys : List Str, anyEq (.str x) (ys.map .str) = decide (x ∈ ys)
  | [] => rfl
  | y :: r => by
    show (y == x || anyEq (.str x) (r.map .str)) = _
    rw [anyEq_strs x r]
    by_cases h : y = x
    · subst h; simp
    · rw [strNe h]; simp [Ne.symm h]
theorem depth_strs : ∀ ys : List Str, PyData.depthAll (ys.map .str) ≤ 1
  | [] => by decide
  | y :: r => by
    have := depth_strs r
    simp only [List.map_cons, PyData.depthAll, PyData.depth]
    omega
theorem inT (x : Str) (ys : List Str) : inD (.str x) (.tuple (ys.map .str)) = some (.bool (decide (x ∈ ys))) := by
  show (if min (PyData.depthAll (ys.map .str)) (PyData.depth (.str x)) ≤ 64 ∧ noD (.str x) = true ∧ noDAll (ys.map .str) = true then some (PyData.bool (anyEq (.str x) (ys.map .str))) else none) = _
  rw [if_pos ⟨Nat.le_trans (Nat.min_le_left _ _) (Nat.le_trans (depth_strs ys) (by decide)), rfl, noD_strs _⟩, anyEq_strs]
theorem ixN_nat {n i : Nat} (h : i < n) : ixN n (i : Int) = some i := by
  unfold ixN
  rw [if_pos (by omega), if_pos (by omega)]
  rfl
theorem atI_nat' {xs : List D} {i : Nat} {x : D} (h : xs[i]? = some x) : atI xs (i : Int) = some x := by
  have hi := (List.getElem?_eq_some_iff.mp h).1
  unfold atI
  rw [ixN_nat hi, Option.bind_some]
  exact h
theorem ixT_nat {xs : List D} {i : Nat} {x : D} (h : xs[i]? = some x) : ixD (.tuple xs) (.int (i : Int)) = some x := atI_nat' h
theorem ixL_nat {xs : List D} {i : Nat} {x : D} (h : xs[i]? = some x) : ixD (.list xs) (.int (i : Int)) = some x := atI_nat' h
set_option Elab.async false
set_option linter.all false
set_option maxRecDepth 100000
set_option maxHeartbeats 4000000
def GoodS (x : Str) : Prop := x.length ≤ 8 ∧ PyData.strOk x = true
def Lw (c : Nat) : Prop := 97 ≤ c ∧ c ≤ 122
def IsW (x : Str) : Prop := 1 ≤ x.length ∧ ∀ c ∈ x.cps.toList, Lw c
theorem app_ok {x y : Str} (h1 : PyData.strOk x = true) (h2 : PyData.strOk y = true) : PyData.strOk (x ++ y) = true := by
  unfold PyData.strOk at *
  show (x.cps ++ y.cps).all _ = true
  rw [Array.all_append, h1, h2]
  rfl
def Sd (l : List Str) : Prop := sortD (l.map .str) = l.map .str
theorem andV_ev {ds : DS2} {a b : DS2 → Option D} {p q : Bool} (e1 : a ds = some (.bool p)) (e2 : b ds = some (.bool q)) : gAndV a b ds = some (.bool (p && q)) := by
  unfold gAndV
  rw [e1, Option.bind_some]
  cases p with
  | true => exact e2
  | false => rfl
def GP (p : Pitch) : Prop := GoodS p.name ∧ 1 ≤ p.size ∧ p.size ≤ 4 ∧ (∀ x ∈ p.marks, GoodS x) ∧ p.marks.length ≤ 4 ∧ (∀ x ∈ p.sorts, GoodS x) ∧ p.sorts.length ≤ 4 ∧ p.sorts ≠ []
def IsPair (d : D) : Prop := ∃ a b : Str, d = .tuple [.str a, .str b] ∧ GoodS a ∧ GoodS b
def meetB (x y : Str) (p q : Pitch) : Bool := (decide (x ∈ p.sorts) && decide (y ∈ q.sorts)) || (decide (y ∈ p.sorts) && decide (x ∈ q.sorts))
theorem boolsOf_map : ∀ l : List Bool, boolsOf (l.map PyData.bool) = some l
  | [] => rfl
  | b :: r => by
    rw [List.map_cons]
    unfold boolsOf
    rw [boolsOf_map r]
    rfl
theorem all_map (l : List Bool) : allD [.list (l.map PyData.bool)] = some (.bool (l.all fun b => b)) := by
  unfold allD
  dsimp only
  rw [boolsOf_map]
  rfl
def encB (b : Str × Str) : D := .tuple [.str b.1, .str b.2]
def BLt (a b : Str × Str) : Prop := PySem.W.dataLt (encB a) (encB b) = true
def PM (p : Pitch) : Prop := (p.marks.Nodup ∧ Sd p.marks ∧ p.marks.length ≤ 3) ∧ (p.sorts.Nodup ∧ Sd p.sorts) ∧ IsW p.name ∧ (∀ x ∈ p.marks, IsW x) ∧ ∀ x ∈ p.sorts, IsW x
def Lx (a b : Nat × Nat) : Prop := a.1 < b.1 ∨ (a.1 = b.1 ∧ a.2 < b.2)
def gnames (g : Gd) : List Str := g.ps.map (·.name)
structure GG (g : Gd) : Prop where
  nd : (gnames g).Nodup
  len : 1 ≤ g.ps.length
  len2 : g.ps.length ≤ 8
  gp : ∀ p ∈ g.ps, GP p
  cl : ∀ c ∈ g.close, c.1 < c.2 ∧ c.2 < g.ps.length
  cl2 : g.close.length ≤ 64
  br : ∀ d ∈ g.bars, IsPair d
  br2 : g.bars.length ≤ 6
  pm : ∀ p ∈ g.ps, PM p
  cp : g.close.Pairwise Lx
  cl3 : g.close.length ≤ 28
  bw : ∃ bl : List (Str × Str), g.bars = bl.map encB ∧ (∀ b ∈ bl, IsW b.1 ∧ IsW b.2 ∧ strLt b.2 b.1 = false) ∧ bl.Pairwise BLt ∧ ∀ b ∈ bl, ∀ c ∈ g.close, ∀ p q, g.ps[c.1]? = some p → g.ps[c.2]? = some q → meetB b.1 b.2 p q = false
theorem ok_iff {x : Str} : PyData.strOk x = true ↔ ∀ c ∈ x.cps.toList, c < 0x110000 := by
  unfold PyData.strOk
  rw [Array.all_eq_true_iff_forall_mem]
  constructor
  · intro h c hc
    simpa using h c (by simpa using hc)
  · intro h c hc
    simpa using h c (by simpa using hc)
theorem char_lt (c : Char) : c.toNat < 0x110000 := by
  rcases c.valid with h | h
  · have : c.toNat < 0xd800 := h
    omega
  · exact h.2
theorem ok_of (s : String) : PyData.strOk (Str.ofString s) = true := by
  rw [ok_iff, Str.ofString_eq_toList]
  intro c hc
  simp at hc
  obtain ⟨ch, _, rfl⟩ := hc
  exact char_lt ch
theorem ok_char (q c : Nat) (hc : c < 0x110000) : ∀ d ∈ Builtin.Str.reprChar q c, d < 0x110000 := by
  have hx : ∀ (n : Nat) (d : Nat), d ∈ (List.replicate n 48 ++ (Nat.toDigits 16 c).map Char.toNat) → d < 0x110000 := by
    intro n d hd
    rcases List.mem_append.mp hd with z | z
    · rw [(List.mem_replicate.mp z).2]; omega
    · obtain ⟨ch, _, rfl⟩ := List.mem_map.mp z
      exact char_lt ch
  intro d hd
  unfold Builtin.Str.reprChar at hd
  dsimp only at hd
  have two : ∀ a b : Nat, a < 0x110000 → b < 0x110000 → d ∈ [a, b] → d < 0x110000 := by
    intro a b ha hb h
    simp at h
    omega
  split at hd
  · exact two _ _ (by omega) hc hd
  · split at hd
    · exact two _ _ (by omega) (by omega) hd
    · split at hd
      · exact two _ _ (by omega) (by omega) hd
      · split at hd
        · exact two _ _ (by omega) (by omega) hd
        · split at hd
          · simp at hd; omega
          · split at hd
            · rcases List.mem_append.mp hd with z | z
              · exact two _ _ (by omega) (by omega) z
              · exact hx _ _ z
            · split at hd
              · rcases List.mem_append.mp hd with z | z
                · exact two _ _ (by omega) (by omega) z
                · exact hx _ _ z
              · rcases List.mem_append.mp hd with z | z
                · exact two _ _ (by omega) (by omega) z
                · exact hx _ _ z
theorem ok_repr {x : Str} (h : PyData.strOk x = true) : PyData.strOk (reprText x) = true := by
  have hq : reprQuote x < 0x110000 := by
    unfold reprQuote
    split <;> omega
  have key : ∀ (l : List Nat) (acc : Array Nat), (∀ c ∈ l, c < 0x110000) → (∀ c ∈ acc.toList, c < 0x110000) → ∀ c ∈ (l.foldl (fun out c => out ++ (Builtin.Str.reprChar (reprQuote x) c).toArray) acc).toList, c < 0x110000 := by
    intro l
    induction l with
    | nil => intro acc _ ha; exact ha
    | cons z r ih =>
      intro acc hl ha
      rw [List.foldl_cons]
      refine ih _ (fun c hc => hl c (List.mem_cons_of_mem _ hc)) fun c hc => ?_
      rw [Array.toList_append] at hc
      rcases List.mem_append.mp hc with y | y
      · exact ha c y
      · exact ok_char _ z (hl z (by simp)) c (by simpa using y)
  rw [ok_iff] at h ⊢
  intro c hc
  unfold reprText at hc
  rw [← Array.foldl_toList] at hc
  simp only [Array.toList_push, List.mem_append, List.mem_singleton] at hc
  rcases hc with z | z
  · exact key _ _ h (fun c hc => by simp at hc; omega) c z
  · omega
theorem ok_join (sep : Str) (hs : PyData.strOk sep = true) : ∀ ts : List Str, (∀ t ∈ ts, PyData.strOk t = true) → PyData.strOk (Str.join sep ts) = true
  | [], _ => by show PyData.strOk Str.empty = true; decide +kernel
  | [x], h => h x (by simp)
  | x :: y :: r, h => app_ok (app_ok (h x (by simp)) hs) (ok_join sep hs (y :: r) fun t ht => h t (List.mem_cons_of_mem _ ht))
theorem ok_from : ∀ (ts : List Str) (k : Nat) (acc : Str), PyData.strOk acc = true → (∀ t ∈ ts, PyData.strOk t = true) → PyData.strOk (textFrom k acc ts) = true
  | [], _, _, h, _ => h
  | t :: ts, k, acc, h, ht => ok_from ts (k + 1) _ (app_ok (app_ok h (ok_of _)) (ht t (by simp))) fun z hz => ht z (List.mem_cons_of_mem _ hz)
mutual
theorem ok_shown : ∀ d : D, d.canLay0 = true → PyData.strOk d.shown = true
  | .none, _ => ok_of _
  | .bool b, _ => by cases b <;> exact ok_of _
  | .int i, _ => ok_of _
  | .str x, h => ok_repr h
  | .list xs, h => app_ok (ok_from _ _ _ (ok_of _) (ok_shownAll xs h)) (ok_of _)
  | .tuple xs, h => app_ok (app_ok (ok_of _) (ok_join _ (ok_of _) _ (ok_shownAll xs h))) (ok_of _)
  | .dict _, h => by cases h
theorem ok_shownAll : ∀ ds : List D, PyData.canLayAll0 ds = true → ∀ t ∈ PyData.shownAll ds, PyData.strOk t = true
  | [], _ => fun t z => by cases z
  | x :: xs, h => by
    have h' : (x.canLay0 && PyData.canLayAll0 xs) = true := h
    obtain ⟨h1, h2⟩ := Bool.and_eq_true_iff.mp h'
    intro t ht
    rcases List.mem_cons.mp (show t ∈ x.shown :: PyData.shownAll xs from ht) with z | z
    · rw [z]; exact ok_shown x h1
    · exact ok_shownAll xs h2 t z
end
structure Nc (k w : Nat) (d : D) : Prop where
  lay : d.canLay0 = true
  dep : d.depth ≤ k
  wt : d.weight ≤ w
  sh : d.intsShort 20 = true
  ok : d.showable = true
theorem Nc.mono {k k' w w' : Nat} {d : D} (h : Nc k w d) (h1 : k ≤ k') (h2 : w ≤ w') : Nc k' w' d := ⟨h.lay, Nat.le_trans h.dep h1, Nat.le_trans h.wt h2, h.sh, h.ok⟩
theorem nc_int {i : Int} (h : i.natAbs < 10 ^ 19) : Nc 0 70 (.int i) := by
  have l : i.natAbs ≠ 0 → i.natAbs.log2 < 64 := fun z => (Nat.log2_lt z).mpr (by omega)
  have l2 : i.natAbs.log2 < 64 := by
    by_cases z : i.natAbs = 0
    · rw [z]; decide
    · exact l z
  refine ⟨rfl, Nat.le_refl _, ?_, ?_, ?_⟩
  · show (if i == 0 then 0 else i.natAbs.log2 + 1) ≤ 70
    split <;> omega
  · have e := int_text_length_le10 (a := i) (k := 19) (by decide) h
    show decide ((Str.ofString (toString i)).length ≤ 20) = true
    rw [PySem.ofString_length]
    exact decide_eq_true e
  · show decide (i.natAbs.log2 < 1920) = true
    exact decide_eq_true (by omega)
theorem isi_ev {T U : String} {g : DS2 → Option D} {ds : DS2} {d : D} {b : Bool} (e : g ds = some d) (t : tyD d = U) (k : kitB U T = some b) : gIsi T g ds = some (.bool b) := by
  unfold gIsi
  rw [e, Option.bind_some, t, k]
  rfl
theorem k_tt : kitB "tuple" "tuple" = some true := by decide +kernel
theorem k_ii : kitB "int" "int" = some true := by decide +kernel
theorem k_ib : kitB "int" "bool" = some false := by decide +kernel
theorem isi_int {g : DS2 → Option D} {ds : DS2} {x : Int} (e : g ds = some (.int x)) : gIsi "int" g ds = some (.bool true) := isi_ev (U := "int") e rfl k_ii
theorem isb_int {g : DS2 → Option D} {ds : DS2} {x : Int} (e : g ds = some (.int x)) : gIsi "bool" g ds = some (.bool false) := isi_ev (U := "int") e rfl k_ib
theorem chain_le {ds : DS2} {a b c : DS2 → Option D} {x y z : Int} (e1 : a ds = some (.int x)) (e2 : b ds = some (.int y)) (e3 : c ds = some (.int z)) (h1 : x ≤ y) (h2 : y ≤ z) : gChain leD leD a b c ds = some (.bool true) := by
  have q1 : leD (.int x) (.int y) = some (.bool true) := by rw [leD_int, decide_eq_true h1]
  have q2 : leD (.int y) (.int z) = some (.bool true) := by rw [leD_int, decide_eq_true h2]
  exact Chain_ev (p := true) e1 e2 q1 (fun _ => e3) (fun _ => q2) nofun
theorem andV_t {ds : DS2} {a b : DS2 → Option D} (e1 : a ds = some (.bool true)) (e2 : b ds = some (.bool true)) : gAndV a b ds = some (.bool true) := andV_ev (p := true) (q := true) e1 e2
theorem whole_ok {i lo hi : Int} (h1 : lo ≤ i) (h2 : i ≤ hi) : F_is_whole [.int i, .int lo, .int hi] = some (.d (.bool true)) := by
  unfold F_is_whole g_is_whole
  exact runP_ev (ret_ev (oX_ev (xP_ev (andV_t (isi_int rfl) (andV_t (NotV_ev (b := false) (isb_int rfl) rfl) (chain_le rfl rfl rfl h1 h2)))))) rfl
theorem all_true {l : List Bool} (h : ∀ b ∈ l, b = true) : allD [.list (l.map PyData.bool)] = some (.bool true) := by
  rw [all_map]
  congr 2
  rw [List.all_eq_true]
  exact h
structure Tr where
  name : Str
  sort : Str
  size : Int
  marks : List Str
structure Cm where
  tr : Tr
  rank : Option Int
  wishes : List Nat
structure Dy where
  g : Gd
  cs : List Cm
  holds : List (Nat × Str)
  lent : List (Nat × Str)
  last : List (Nat × Str)
  draw : Int
structure TV (t : Tr) : Prop where
  nm : IsW t.name ∧ t.name.length ≤ 8
  so : IsW t.sort ∧ t.sort.length ≤ 8
  sz : 1 ≤ t.size ∧ t.size ≤ 4
  mw : ∀ x ∈ t.marks, IsW x ∧ x.length ≤ 8
  sd : Sd t.marks
  nd : t.marks.Nodup
  ml : t.marks.length ≤ 3
structure CV (N : Nat) (c : Cm) : Prop where
  tr : TV c.tr
  rk : ∀ r, c.rank = some r → 1 ≤ r ∧ r ≤ 99999
  wn : c.wishes.Nodup
  wl : c.wishes.length ≤ 8
  wb : ∀ n ∈ c.wishes, n < N
structure PNV (N : Nat) (l : List (Nat × Str)) : Prop where
  ok : ∀ p ∈ l, p.1 < N ∧ IsW p.2 ∧ p.2.length ≤ 8
  len : l.length ≤ 24
  up : l.Pairwise fun a b => a.1 < b.1
  nd : (l.map (·.2)).Nodup
local macro_rules | `(tactic| walk_at "ws") => `(tactic| with_reducible first | refine sw_seq ?_ | refine sw_asg ?_ | refine sw_drop ?_ | refine sw_if ?_ | refine sw_next ?_ | refine sw_ret ?_ | refine sw_for ?_ | refine sw_asgT ?_ | refine sw_par2 ?_ | refine sw_par3 ?_ | refine sw_parN ?_ | refine sw_setI ?_ | refine sw_dput ?_ | refine sw_dputB ?_ | refine fw_nil ?_ | refine sw_retN ?_ | refine sw_brk ?_ | refine sw_cnt ?_)
local macro_rules | `(tactic| walk_at "wx") => `(tactic| first | (with_reducible first | refine xw_P ?_ | refine xw_oX ?_ | refine xw_O ?_ | refine xw_cons ?_ | refine xw_nil ?_ | refine xw_B ?_ | refine xw_oP ?_ | refine xw_oB ?_ | refine xw_iP ?_ | refine xw_tP ?_ | refine xw_op ?_ | refine xw_opF ?_ | refine xw_un ?_ | refine xw_tup ?_ | refine xw_lst ?_ | refine xw_call ?_ | refine xw_callF ?_ | refine xw_args ?_ | refine xw_src ?_ | refine xw_bool ?_ | refine xw_tr ?_ | refine xw_not ?_ | refine xw_an ?_ | refine xw_or0 ?_ | refine xw_if ?_ | refine xw_orV ?_ | refine xw_cP ?_ | refine xw_oCons ?_ | refine xw_oNil ?_ | refine xw_yes ?_ | refine xw_dict ?_ | refine xw_dictNew ?_ | refine xw_andV ?_) | ((with_reducible refine' xw_dItems ?ee _); (case ee => exact rfl)) | ((with_reducible refine' xw_move ?ee _); (case ee => exact rfl)) | ((with_reducible refine' xw_mt ?ee _); (case ee => exact rfl)) | ((with_reducible refine' xw_cS ?ee _); (case ee => exact rfl)) | ((with_reducible refine' xw_cC ?ee _); (case ee => exact rfl)))
local macro_rules | `(tactic| walk_at "wo") => `(tactic| first | (with_reducible first | refine ow_op ?_ | refine ow_C ?_ | refine ow_cons ?_ | refine ow_nil ?_ | refine ow_call ?_ | refine ow_callP ?_ | refine ow_toD ?_ | refine ow_toL ?_ | refine ow_toK ?_ | refine ow_toD0 ?_ | refine ow_toL0 ?_ | refine ow_args ?_ | refine ow_src ?_ | refine ow_L ?_ | refine ow_B ?_ | refine ow_tr ?_ | refine ow_tup ?_ | refine ow_lst ?_ | refine ow_and ?_ | refine ow_or ?_ | refine ow_not ?_ | refine ow_andV ?_ | refine ow_orV ?_ | refine ow_notV ?_ | refine ow_if ?_ | refine ow_chain ?_ | refine ow_slA ?_ | refine ow_part ?_ | refine ow_noPart ?_ | refine ow_un ?_ | refine ow_op2 ?_ | refine ow_opF ?_ | refine ow_isi ?_ | refine ow_split ?_ | refine ow_yes ?_) | ((with_reducible refine' ow_var ?ee _); (case ee => exact rfl)) | ((with_reducible refine' ow_dget ?ee _); (case ee => exact rfl)) | ((with_reducible refine' ow_din ?ee _); (case ee => exact rfl)))
local macro_rules | `(tactic| walk_at "wl") => `(tactic| first | (with_reducible first | refine bw_mk ?_ | refine intw_mk ?_ | refine iw_T ?_ | refine iw_F ?_ | refine iw_self ?_ | refine iw_nself ?_ | refine iw_nT ?_ | refine iw_nF ?_ | refine setwS ?_ | refine setw0 ?_ | refine setdwS ?_ | refine setdw0 ?_ | refine setdwZ ?_ | refine setdwZ0 ?_ | refine setmwS ?_ | refine setmw0 ?_ | refine ex2_mk ?_ | refine ex3_mk ?_ | refine ow_some ?_ | refine ow_add ?_ | refine ow_sub ?_ | refine ow_lt ?_ | refine ow_le ?_ | refine ow_gt ?_ | refine ow_ge ?_ | refine ow_eqI ?_ | refine ow_neI ?_ | refine ow_eqS ?_ | refine ow_neS ?_ | refine ow_truB ?_ | refine ow_lenLm ?_ | refine ow_lenTm ?_ | refine ow_lenL ?_ | refine ow_lenT ?_ | refine ow_lenS ?_ | refine ow_tupleL ?_ | refine ow_tupleT ?_ | refine ow_listL ?_ | refine ow_listT ?_ | refine ow_srcL ?_ | refine ow_srcT ?_ | refine ow_intB ?_ | refine ow_min ?_ | refine ow_max ?_ | refine ow_isN_n ?_ | refine ow_isN_i ?_ | refine ow_notN_n ?_ | refine ow_notN_i ?_ | refine ow_notN_s ?_ | refine ow_neg ?_ | refine ow_ix0L ?_ | refine ow_ix0T ?_ | refine ow_keyS ?_ | refine ow_keyI ?_) | ((with_reducible refine' ow_lstAt ?ee _); (case ee => exact rfl)) | ((with_reducible refine' ow_stAt ?ee _); (case ee => exact rfl)) | ((with_reducible refine' ow_dicKs ?ee _); (case ee => exact rfl)) | ((with_reducible refine aw_mk ?ee ?_); (case ee => first | exact rfl | exact le_size rfl)) | (with_reducible refine ow_mod (by decide) ?_) | (with_reducible refine ow_div (by decide) (by decide) ?_) | (with_reducible refine ow_mulR (by decide) ?_) | (with_reducible refine ow_mulL (by decide) ?_) | (with_reducible refine ow_appm (by omega) ?_) | ((with_reducible refine' ow_ix (y := PyData.int (OfNat.ofNat _)) ?ee _); (case ee => exact rfl)) | ((with_reducible refine' ow_asgT ?ee _); (case ee => exact rfl)))
local macro_rules | `(tactic| walk_at "w") => `(tactic| repeat (first | walk_at "wx" | walk_at "wo" | walk_at "wl" | walk_at "ws"))
end LAW
set_option Elab.async false
set_option linter.all false
set_option maxRecDepth 100000
set_option maxHeartbeats 4000000
namespace DL
open PySem PySem.Spec L2
section
variable {TBL : TabL}
section
variable {S : Type} {ds : DS S} {Q : D → Prop} {QL : List D → Prop} {g go a : DS S → Option D} {gs : DS S → Option (List D)} {x f m : Str} {i j n : Nat}
theorem ow_fld (k : OW (g ds) fun d => OW (fldD x f d) Q) : OW (gFld x f g ds) Q := by
  obtain ⟨d, e, y, e2, q⟩ := k; exact ⟨y, by unfold gFld; rw [e]; exact e2, q⟩
theorem ow_meth {F : List D → Option (MO S)} (k : OW (go ds) fun d => OW (gs ds) fun as => AW (meOk x m d = true) (AW (as.length + 1 = n) (OW (F (d :: as)) fun r => OW (toD r) Q))) : OW (gMeth n x m F go gs ds) Q := by
  obtain ⟨d, e, as, e2, h1, h2, r, e3, y, e4, q⟩ := k
  exact ⟨y, by unfold gMeth; rw [e, Option.bind_some, e2, Option.bind_some, if_pos ⟨h1, h2⟩, e3]; exact e4, q⟩
theorem ow_dgetN {kvs : List (Key × D)} (e0 : dicLs ds j = some kvs) (k : OW (g ds) fun x => OW (keyOf1 x) fun k => Q ((lookD kvs k).getD .none)) : OW (gDGetN j g ds) Q := by
  obtain ⟨x, e, kk, e2, q⟩ := k
  exact ⟨_, by unfold gDGetN gDLook; rw [e0, Option.bind_some, e, Option.bind_some, e2]; rfl, q⟩
theorem ow_ixk {kvs : List (Key × D)} {y : D} (k : OW (keyOf1 y) fun k => OW (lookD kvs k) Q) : OW (ixK (.dict ((.none, .bool true) :: encKs kvs)) y) Q := by
  obtain ⟨kk, e, d, e2, q⟩ := k
  exact ⟨d, by unfold ixK; dsimp only; rw [decK_enc, Option.bind_some, e]; exact e2, q⟩
theorem ow_ink {b : Bool} {kvs : List (Key × D)} {y : D} (k : OW (keyOf1 y) fun k => Q (.bool (if b then (lookD kvs k).isSome else !(lookD kvs k).isSome))) : OW (inK b y (.dict ((.none, .bool true) :: encKs kvs))) Q := by
  obtain ⟨kk, e, q⟩ := k
  refine ⟨_, ?_, q⟩
  unfold inK
  dsimp only
  rw [decK_enc, Option.bind_some, e]
  rfl
theorem ow_slF {l u : DS S → Option (Option Int)} (k : OW (a ds) fun x => OW (l ds) fun lo => OW (u ds) fun hi => OW (slL x lo hi) QL) : OW (gSlF a l u ds) QL := by
  obtain ⟨x, e, lo, e1, hi, e2, y, e3, q⟩ := k
  exact ⟨y, by unfold gSlF; rw [e, Option.bind_some, e1, Option.bind_some, e2]; exact e3, q⟩
theorem ow_slL {xs : List D} {lo hi : Option Int} (q : QL (cutD xs lo hi)) : OW (slL (.list xs) lo hi) QL := ⟨_, rfl, q⟩
theorem ow_zipTL {xs ys : List D} (q : QL (zipD xs ys)) : OW (zipTL [.tuple xs, .list ys]) QL := ⟨_, rfl, q⟩
theorem ow_zip2T {xs ys : List D} (q : QL (zipD xs ys)) : OW (zip2 [.tuple xs, .tuple ys]) QL := ⟨_, rfl, q⟩
theorem ow_zip2L {xs ys : List D} (q : QL (zipD xs ys)) : OW (zip2 [.list xs, .list ys]) QL := ⟨_, rfl, q⟩
variable {X : D → DS S → Prop} {XL : List D → DS S → Prop} {XB : Bool → DS S → Prop} {XM : MO S → DS S → Prop} {ff : XF S D} {fl : XF S (List D)} {fb : XF S Bool} {fa fc : XF S (MO S)} {fo : XF S (List (MO S))}
theorem xw_oMeth {F : List D → Option (MO S)} (k : OW (go ds) fun d => OW (gs ds) fun as => AW (meOk x m d = true) (AW (as.length + 1 = n) (OW (F (d :: as)) fun r => LsW r fun ys => AW (noListAll ys = true) (XM (.lst ys) ds)))) : XW (oMeth n x m F go gs) ds XM := by
  obtain ⟨d, e, as, e2, h1, h2, r, e3, ys, e4, h3, q⟩ := k
  subst e4
  exact ⟨_, ds, by unfold oMeth; rw [e, Option.bind_some, e2, Option.bind_some, if_pos ⟨h1, h2⟩, e3, Option.bind_some]; dsimp only; rw [if_pos h3], q⟩
theorem xw_mtF {o : List D → List D → Option (D × List D)} {fs : Fls} (e0 : objAt ds i x = some fs) (k : OW (lstF f fs) fun xs => OW (gs (hideDS ds)) fun as => PW2 (o xs as) fun d ys => SetW ds i (some (.obj x (putFV f (.l ys) fs))) fun ds2 => X d ds2) : XW (xMtF i x f o gs) ds X := by
  obtain ⟨xs, e, as, e2, d, ys, e3, q⟩ := k
  exact ⟨d, _, by unfold xMtF; rw [e0, Option.bind_some, e, Option.bind_some, e2, Option.bind_some, e3]; rfl, q⟩
theorem xw_cU {F : List D → List D → Option (MO S × List D)} {s0 : List D} (e0 : lstAt ds i = some s0) (k : XW fl ds fun as ds1 => OW (lstAt ds1 i) fun s => AW (as.length + 1 = n) (PW2 (F s as) fun r s' => SetW ds1 i (some (.lst s')) fun ds2 => XM r ds2)) : XW (oCallU n i F fl) ds XM := by
  obtain ⟨as, ds1, e, s, e1, n1, r, s', e2, q⟩ := k
  exact ⟨r, _, by unfold oCallU; rw [e0, Option.bind_some]; exact xb_ev e (by rw [e1, Option.bind_some, if_pos n1, e2]; rfl), q⟩
theorem xw_cM {F : List (MO S) → Option (MO S × List (MO S))} {s0 : List D} (e0 : lstAt ds i = some s0) (k : XW fo ds fun mos ds1 => OW (lstAt ds1 i) fun s => AW (mos.length + 1 = n) (PW2 (F (.lst s :: mos)) fun r ms => ∃ ys rest, ms = .lst ys :: rest ∧ SetW ds1 i (some (.lst ys)) fun ds2 => XM r ds2)) : XW (oCallM n i F fo) ds XM := by
  obtain ⟨as, ds1, e, s, e1, n1, r, ms, e2, ys, rest, e3, q⟩ := k
  subst e3
  exact ⟨r, _, by unfold oCallM; rw [e0, Option.bind_some]; exact xb_ev e (by rw [e1, Option.bind_some, if_pos n1, e2]; rfl), q⟩
theorem xw_cB {F : Fls → List D → Option (MO S × Fls)} {fs0 : Fls} (e0 : objAt ds i x = some fs0) (k : AW ((fldL m (fsD fs0)).isNone = true) (XW fl ds fun as ds1 => OW (objAt ds1 i x) fun fs => AW (as.length + 1 = n) (PW2 (F fs as) fun r fs' => SetW ds1 i (some (.obj x fs')) fun ds2 => XM r ds2))) : XW (oCallB n i x m F fl) ds XM := by
  obtain ⟨h, as, ds1, e, s, e1, n1, r, s', e2, q⟩ := k
  exact ⟨r, _, by unfold oCallB; rw [e0, Option.bind_some, if_pos h]; exact xb_ev e (by rw [e1, Option.bind_some, if_pos n1, e2]; rfl), q⟩
theorem ow_objAt {fs : Fls} {Z : Fls → Prop} (e : objAt ds i x = some fs) (q : Z fs) : OW (objAt ds i x) Z := ⟨fs, e, q⟩
theorem xw_make {F : Fls → List D → Option (MO S × Fls)} (k : XW fl ds fun as ds1 => AW (as.length + 1 = n) (PW2 (F [] as) fun r fs => r = .d .none ∧ XM (.obj x fs) ds1)) : XW (oMake x n F fl) ds XM := by
  obtain ⟨as, ds1, e, n1, r, fs, e2, e3, q⟩ := k
  subst e3
  exact ⟨_, ds1, by unfold oMake; exact xb_ev e (xlift_ev (by rw [if_pos n1, e2]; rfl)), q⟩
theorem xw_scLen {ns : List Int} (e0 : scrAt ds j = some ns) (q : X (.int (ns.length : Nat)) ds) : XW (xScLen j) ds X := ⟨_, ds, by unfold xScLen; rw [e0]; rfl, q⟩
theorem xw_scIx {ns0 : List Int} (e0 : scrAt ds j = some ns0) (k : XW ff ds fun d ds1 => IntW d fun i => OW (scrAt ds1 j) fun ns => OW (atI ns i) fun z => X (.int z) ds1) : XW (xScIx j ff) ds X := by
  obtain ⟨d, ds1, e, i, e1, ns, e2, z, e3, q⟩ := k
  subst e1
  exact ⟨_, ds1, by unfold xScIx; rw [e0, Option.bind_some, e, Option.bind_some]; dsimp only; rw [e2, Option.bind_some, e3]; rfl, q⟩
theorem ow_scrAt {ns : List Int} {Z : List Int → Prop} (e : scrAt ds j = some ns) (q : Z ns) : OW (scrAt ds j) Z := ⟨ns, e, q⟩
theorem xw_ixL {xs0 : List D} (e0 : lstAt ds j = some xs0) (k : XW ff ds fun d ds1 => IntW d fun i => OW (lstAt ds1 j) fun xs => OW (atI xs i) fun z => X z ds1) : XW (xIxL j ff) ds X := by
  obtain ⟨d, ds1, e, i, e1, ns, e2, z, e3, q⟩ := k
  subst e1
  exact ⟨_, ds1, by unfold xIxL; rw [e0, Option.bind_some, e, Option.bind_some]; dsimp only; rw [e2, Option.bind_some, e3]; rfl, q⟩
theorem xw_frz {xs : List D} (e : ds[i]? = some (some (.lst xs))) (k : SetW ds i (some (.d (.list xs))) fun ds1 => X (.list xs) ds1) : XW (xFrz i) ds X := ⟨_, _, by unfold xFrz; rw [e], k⟩
theorem xw_frzD {x : D} (e : ds[i]? = some (some (.d x))) (q : X x ds) : XW (xFrz i) ds X := ⟨_, _, by unfold xFrz; rw [e], q⟩
theorem xw_frzK {kvs : List (Key × D)} (e : ds[i]? = some (some (.dic kvs))) (k : SetW ds i (some (.d (.dict ((.none, .bool true) :: encKs kvs)))) fun ds1 => X (.dict ((.none, .bool true) :: encKs kvs)) ds1) : XW (xFrzK i) ds X := ⟨_, _, by unfold xFrzK; rw [e], k⟩
theorem xw_moveK {kvs : List (Key × D)} (e : ds[i]? = some (some (.dic kvs))) (k : SetW ds i none fun ds1 => XM (.dic kvs) ds1) : XW (oMove i) ds XM := ⟨_, _, by unfold oMove; rw [e], k⟩
theorem xw_noPart {XO : Option Int → DS S → Prop} (q : XO none ds) : XW (xNoPart (S := S)) ds XO := ⟨_, ds, rfl, q⟩
theorem xw_part {XO : Option Int → DS S → Prop} (k : XW ff ds fun d ds1 => IntW d fun i => XO (some i) ds1) : XW (xPart ff) ds XO := by
  obtain ⟨d, ds1, e, i, e1, q⟩ := k
  subst e1
  exact ⟨_, ds1, xb_ev e (xlift_ev rfl), q⟩
theorem xw_sl3 {fl fu : XF S (Option Int)} {o : D → Option Int → Option Int → Option D} (k : XW ff ds fun d ds1 => XW fl ds1 fun lo ds2 => XW fu ds2 fun hi ds3 => OW (o d lo hi) fun y => X y ds3) : XW (xSl3 ff fl fu o) ds X := by
  obtain ⟨d, ds1, e, lo, ds2, e1, hi, ds3, e2, y, e3, q⟩ := k
  exact ⟨y, ds3, xb_ev e (xb_ev e1 (xb_ev e2 (xlift_ev e3))), q⟩
theorem xw_step {fs : XF S (Option Int)} (k : XW ff ds fun d ds1 => XW fs ds1 fun o ds2 => OW (stepD d o) fun zs => XM (.lst zs) ds2) : XW (oStep ff fs) ds XM := by
  obtain ⟨d, ds1, e, o, ds2, e1, zs, e2, q⟩ := k
  exact ⟨_, ds2, xb_ev e (xb_ev e1 (xlift_ev (by rw [e2]; rfl))), q⟩
theorem xw_oIf (k : XW fb ds fun b ds1 => IW b (XW fa ds1 XM) (XW fc ds1 XM)) : XW (oIf fb fa fc) ds XM := by
  obtain ⟨b, ds1, e, k1, k2⟩ := k
  cases b with
  | true => obtain ⟨y, ds2, e2, q⟩ := k1 rfl; exact ⟨y, ds2, xb_ev e e2, q⟩
  | false => obtain ⟨y, ds2, e2, q⟩ := k2 rfl; exact ⟨y, ds2, xb_ev e e2, q⟩
theorem letw {ds0 : DS S} {N : DS S → Prop} (e : ds = ds0) (q : N ds0) : LetW ds N := by subst e; exact q
theorem lcX_go {γ : Type} {own : List Nat} {t : D → Option (List (Nat × D))} {h : XF S Bool} {e : XF S D} {enc : γ → D} (Inv : Nat → List D → DS S → Prop) : ∀ (es : List γ) (k : Nat) (acc : List D) (ds : DS S), Inv k acc ds →
    (∀ n c, es[n]? = some c → ∀ acc ds, Inv (k + n) acc ds → OW (t (enc c)) fun as => LetW (setD (wipeD ds own) as) fun ds1 => XW h ds1 fun b ds2 => IW b (XW e ds2 fun y ds3 => LetW (mergeD ds own ds3) (Inv (k + n + 1) (acc ++ [y]))) (LetW (mergeD ds own ds2) (Inv (k + n + 1) acc))) →
    ∃ ys ds', lcRunX (lcOneX own t h e) (es.map enc) ds = some (ys, ds') ∧ Inv (k + es.length) (acc ++ ys) ds'
  | [], k, acc, ds, h0, _ => ⟨[], ds, rfl, by rw [List.append_nil]; exact h0⟩
  | c :: es, k, acc, ds, h0, hs => by
    obtain ⟨as, e1, b, ds2, e2, k1, k2⟩ := hs 0 c rfl acc ds h0
    have more : ∀ (acc2 : List D) (ds4 : DS S), Inv (k + 1) acc2 ds4 → ∃ ys ds', lcRunX (lcOneX own t h e) (es.map enc) ds4 = some (ys, ds') ∧ Inv (k + (es.length + 1)) (acc2 ++ ys) ds' := fun acc2 ds4 hi => by
      obtain ⟨ys, ds', e5, hi2⟩ := lcX_go Inv es (k + 1) acc2 ds4 hi fun n x hx acc ds hds => by
        have := hs (n + 1) x (by simpa using hx) acc ds (by rw [show k + (n + 1) = k + 1 + n from by omega]; exact hds)
        rw [show k + (n + 1) = k + 1 + n from by omega] at this
        exact this
      exact ⟨ys, ds', e5, by rw [show k + (es.length + 1) = k + 1 + es.length from by omega]; exact hi2⟩
    cases b with
    | true =>
      obtain ⟨y, ds3, e3, hi⟩ := k1 rfl
      obtain ⟨ys, ds', e5, hi2⟩ := more (acc ++ [y]) (mergeD ds own ds3) hi
      refine ⟨y :: ys, ds', ?_, by rw [show acc ++ y :: ys = acc ++ [y] ++ ys from by simp]; exact hi2⟩
      show (lcOneX own t h e (enc c) ds).bind _ = _
      unfold lcOneX
      rw [e1, Option.bind_some, e2, Option.bind_some, if_pos rfl, e3, Option.bind_some, Option.bind_some]
      dsimp only
      rw [show lcRunX (fun x ds => (t x).bind fun as => (h (setD (wipeD ds own) as)).bind fun b => if b.1 = true then (e b.2).bind fun y => some (some y.1, mergeD ds own y.2) else some (none, mergeD ds own b.2)) (es.map enc) (mergeD ds own ds3) = some (ys, ds') from e5]
      rfl
    | false =>
      have hi := k2 rfl
      obtain ⟨ys, ds', e5, hi2⟩ := more acc (mergeD ds own ds2) hi
      refine ⟨ys, ds', ?_, hi2⟩
      show (lcOneX own t h e (enc c) ds).bind _ = _
      unfold lcOneX
      rw [e1, Option.bind_some, e2, Option.bind_some, if_neg Bool.false_ne_true, Option.bind_some]
      dsimp only
      rw [show lcRunX (fun x ds => (t x).bind fun as => (h (setD (wipeD ds own) as)).bind fun b => if b.1 = true then (e b.2).bind fun y => some (some y.1, mergeD ds own y.2) else some (none, mergeD ds own b.2)) (es.map enc) (mergeD ds own ds2) = some (ys, ds') from e5]
      rfl
theorem xw_lcX {γ : Type} (es : List γ) (enc : γ → D) (Inv : Nat → List D → DS S → Prop) {src : XF S (List D)} {own : List Nat} {t : D → Option (List (Nat × D))} {h : XF S Bool} {e : XF S D}
    (k : XW src ds fun xs ds1 => xs = es.map enc ∧ Inv 0 [] ds1 ∧ (∀ n c, es[n]? = some c → ∀ acc ds, Inv n acc ds → OW (t (enc c)) fun as => LetW (setD (wipeD ds own) as) fun ds1 => XW h ds1 fun b ds2 => IW b (XW e ds2 fun y ds3 => LetW (mergeD ds own ds3) (Inv (n + 1) (acc ++ [y]))) (LetW (mergeD ds own ds2) (Inv (n + 1) acc))) ∧ ∀ ys ds2, Inv es.length ys ds2 → XM (.lst ys) ds2) : XW (xLc src own t h e) ds XM := by
  obtain ⟨xs, ds1, e1, ex, h0, hs, hN⟩ := k
  subst ex
  obtain ⟨ys, ds', e2, hi⟩ := lcX_go Inv es 0 [] ds1 h0 fun n c hc acc ds hd => by
    rw [Nat.zero_add] at hd ⊢
    exact hs n c hc acc ds hd
  rw [Nat.zero_add] at hi
  exact ⟨_, ds', xb_ev e1 (by rw [e2]; rfl), hN ys ds' hi⟩
variable {N : DS S → Prop} {R : MO S → DS S → Prop} {B C : DS S → Prop} {u : SF S}
theorem sw_dputB {f : XF S D} (k : XW f ds fun d ds1 => OW (dicKs ds1 j) fun kvs => OW (g ds1) fun x => OW (keyOf1 x) fun k => AW (kvs.length < sizeLine) (SetW ds1 j (some (.dic (putD kvs k d))) N)) : SW (gDPutB j f g) ds N R B C := by
  obtain ⟨d, ds1, e, kvs, e1, x, e2, k, e3, z, q⟩ := k
  exact ⟨.nx (ds1.set j (some (.dic (putD kvs k d)))), by unfold gDPutB; rw [e, Option.bind_some]; dsimp only; rw [e1, Option.bind_some, e2, Option.bind_some, e3, Option.bind_some, if_pos z], q⟩
theorem sw_setFld (k : XW fa ds fun r ds1 => OW (objAt ds1 i x) fun fs => OW (toFV r) fun fv => AW (fs.length < 1000) (SetW ds1 i (some (.obj x (putFV f fv fs))) N)) : SW (gSetFld i x f fa) ds N R B C := by
  obtain ⟨r, ds1, e, fs, e1, fv, e2, h, q⟩ := k
  exact ⟨.nx (ds1.set i (some (.obj x (putFV f fv fs)))), by unfold gSetFld; rw [e, Option.bind_some]; dsimp only; rw [e1, Option.bind_some, e2, Option.bind_some, if_pos h], q⟩
end
section
variable {S : Type} {ds : DS S} {N : DS S → Prop} {R : MO S → DS S → Prop} {B C : DS S → Prop}
theorem sw_forK {j : Nat} {t : D → Option (List (Nat × D))} {u : SF S} {kvs : List (Key × D)} (e0 : dicKs ds j = some kvs) (k : FW t u (kvs.map fun p => kD p.1) (ds.set j (some (.lk kvs))) (fun ds' => ∃ k2, lkAt ds' j = some k2 ∧ ((ds'.set j none).all noLkM) = true ∧ N (ds'.set j (some (.dic k2)))) (fun _ _ => False)) : SW (gForK j t u) ds N R B C := by
  obtain ⟨o, e, w⟩ := k
  cases o with
  | nx ds' =>
    obtain ⟨k2, e2, e3, q⟩ := w
    refine ⟨.nx (ds'.set j (some (.dic k2))), ?_, q⟩
    have eg : gFor (xKeysL j) t u (ds.set j (some (.lk kvs))) = some (.nx ds') := by
      unfold gFor xKeysL lkAt
      have ej := dicKs_some e0
      have jl := (List.getElem?_eq_some_iff.mp ej).1
      rw [List.getElem?_set_self jl]
      exact e
    unfold gForK gLock
    rw [e0, Option.bind_some, eg, Option.bind_some]
    dsimp only
    rw [e2, Option.bind_some, if_pos e3]
  | bk ds' => exact w.elim
  | ct ds' => exact w.elim
  | rt m ds' => exact w.elim
theorem xw_callA {n : Nat} {is : List Nat} {F : List D → Option (MO S)} {gs : DS S → Option (List D)} {XL : D → DS S → Prop} (k : OW (gs (keepI is ds)) fun as => ∃ xs, as.length = n ∧ F as = some (.lst xs) ∧ (apAll xs && (keepI is ds).all apS) = true ∧ XL (.list xs) ds) : XW (xCallA n is F gs) ds XL := by
  obtain ⟨as, ea, xs, hn, ef, hc, q⟩ := k
  exact ⟨.list xs, ds, by unfold xCallA; rw [ea, Option.bind_some, if_pos hn, ef, Option.bind_some]; dsimp only; rw [if_pos hc], q⟩
end
end
set_option Elab.async false
set_option linter.all false
set_option maxRecDepth 100000
set_option maxHeartbeats 4000000
open PyProof.Rows
section
variable {S : Type} {ds : DS S}
def XEndW (N : DS S → Prop) (R : MO S → DS S → Prop) (E : Exc → DS S → Prop) : OX S → Prop
  | .out (.nx d) => N d
  | .out (.rt m d) => R m d
  | .out _ => False
  | .ex e d => E e d
def SXW (g : SFX S) (ds : DS S) (N : DS S → Prop) (R : MO S → DS S → Prop) (E : Exc → DS S → Prop) : Prop := ∃ o, g ds = some o ∧ XEndW N R E o
variable {g h : SFX S} {N : DS S → Prop} {R : MO S → DS S → Prop} {E : Exc → DS S → Prop} {B C : DS S → Prop}
theorem sxw_seq (k : SXW g ds (fun d => SXW h d N R E) R E) : SXW (gSeqX g h) ds N R E := by
  obtain ⟨o, e, q⟩ := k
  unfold SXW gSeqX
  rw [e, Option.bind_some]
  cases o with
  | ex x d => exact ⟨_, rfl, q⟩
  | out o =>
    cases o with
    | nx d => exact q
    | rt m d => exact ⟨_, rfl, q⟩
    | bk d => exact False.elim q
    | ct d => exact False.elim q
theorem sxw_next (q : N ds) : SXW gNextX ds N R E := ⟨_, rfl, q⟩
theorem sxw_lift {u : SF S} (k : SW u ds N R (fun _ => False) (fun _ => False)) : SXW (gLift u) ds N R E := by
  obtain ⟨o, e, q⟩ := k
  refine ⟨.out o, by unfold gLift; rw [e]; rfl, ?_⟩
  cases o with
  | nx d => exact q
  | rt m d => exact q
  | bk d => exact False.elim q
  | ct d => exact False.elim q
theorem sxw_if {c : XF S Bool} (k : XW c ds fun b d => IW b (SXW g d N R E) (SXW h d N R E)) : SXW (gIfX c g h) ds N R E := by
  obtain ⟨b, d, e, k1, k2⟩ := k
  unfold SXW gIfX
  rw [e, Option.bind_some]
  cases b with
  | true => exact k1 rfl
  | false => exact k2 rfl
theorem sxw_raiseF {x f : Str} {fs : XF S (List D)} (k : XW fs ds fun xs d => ∃ y, xs = [y] ∧ E ⟨x, some (f, y)⟩ d) : SXW (gRaiseF x f fs) ds N R E := by
  obtain ⟨xs, d, e, y, rfl, q⟩ := k
  exact ⟨_, raiseF_ev e, q⟩
theorem sxw_raise {e : Exc} (q : E e ds) : SXW (gRaise e) ds N R E := ⟨_, rfl, q⟩
theorem ex1_mk {y : D} {Z : D → Prop} (q : Z y) : ∃ z, [y] = [z] ∧ Z z := ⟨y, rfl, q⟩
def ExcW {α : Type} (r : Except Exc α) (N : α → Prop) (E : Exc → Prop) : Prop := match r with
  | .ok m => N m
  | .error e => E e
theorem excw_ok {α : Type} {m : α} {N : α → Prop} {E : Exc → Prop} (q : N m) : ExcW (.ok m) N E := q
theorem excw_er {α : Type} {e : Exc} {N : α → Prop} {E : Exc → Prop} (q : E e) : ExcW (.error e : Except Exc α) N E := q
theorem sxw_drop {n : Nat} {F : List D → Option (Except Exc (MO S))} {fs : XF S (List D)} (k : XW fs ds fun as d => AW (as.length = n) (OW (F as) fun r => ExcW r (fun _ => N d) (fun e => E e d))) : SXW (gDropX n F fs) ds N R E := by
  obtain ⟨as, d, e, hn, r, e2, q⟩ := k
  unfold SXW gDropX
  rw [e, Option.bind_some, if_pos hn, e2]
  cases r with
  | ok m => exact ⟨_, rfl, q⟩
  | error x => exact ⟨_, rfl, q⟩
theorem sw_tryC {kn : List Str} {v : SF S} (k : SXW g ds N R fun e d => AW (e.nm ∈ kn) (SW v d N R B C)) : SW (gTryC kn g v) ds N R B C := by
  obtain ⟨o, e, q⟩ := k
  unfold SW gTryC
  rw [e, Option.bind_some]
  cases o with
  | out o =>
    cases o with
    | nx d => exact ⟨_, rfl, q⟩
    | rt m d => exact ⟨_, rfl, q⟩
    | bk d => exact False.elim q
    | ct d => exact False.elim q
  | ex x d =>
    dsimp only
    rw [if_pos q.1]
    exact q.2
theorem ow_runPX {n : Nat} {as : List D} {Q : Except Exc (MO S) → Prop} (d0 : DS S) (e0 : startD n (as.map .d) = d0) (k : SXW g d0 (fun _ => Q (.ok (.d .none))) (fun m _ => Q (.ok m)) (fun e _ => Q (.error e))) : OW (runPX n g as) Q := by
  subst e0
  obtain ⟨o, e, q⟩ := k
  unfold OW runPX
  rw [e, Option.bind_some]
  cases o with
  | ex x d => exact ⟨_, rfl, q⟩
  | out o =>
    cases o with
    | nx d => exact ⟨_, rfl, q⟩
    | rt m d => exact ⟨_, rfl, q⟩
    | bk d => exact False.elim q
    | ct d => exact False.elim q
end
theorem xw_isE {j : Nat} {tab : List (Str × Bool)} {ds : DS Exc} {X : D → DS Exc → Prop} {e : Exc} {b : Bool} (e0 : stAt ds j = some e) (e1 : tab.lookup e.nm = some b) (q : X (.bool b) ds) : XW (xIsE j tab) ds X := ⟨_, _, by unfold xIsE; rw [e0, Option.bind_some, e1]; rfl, q⟩
theorem xw_noneT {j : Nat} {ds : DS Exc} {X : Bool → DS Exc → Prop} (e : ds[j]? = some (some (.d .none))) (q : X true ds) : XW (xtNoneE j) ds X := ⟨_, _, noneE_no e, q⟩
theorem xw_noneF {j : Nat} {ds : DS Exc} {s : Exc} {X : Bool → DS Exc → Prop} (e : ds[j]? = some (some (.st s))) (q : X false ds) : XW (xtNoneE j) ds X := ⟨_, _, noneE_st e, q⟩
section
variable {S : Type} {ds : DS S}
def moD : MO S → Option D
  | .d x => some x
  | .lst xs => some (.list xs)
  | _ => none
theorem ow_moD {x : D} {Q : D → Prop} (q : Q x) : OW (moD (S := S) (.d x)) Q := ⟨x, rfl, q⟩
theorem ow_moL {xs : List D} {Q : D → Prop} (q : Q (.list xs)) : OW (moD (S := S) (.lst xs)) Q := ⟨_, rfl, q⟩
theorem sxw_asgC {i n : Nat} {F : List D → Option (Except Exc (MO S))} {fs : XF S (List D)} {N : DS S → Prop} {R : MO S → DS S → Prop} {E : Exc → DS S → Prop} (k : XW fs ds fun as d => AW (as.length = n) (OW (F as) fun r => ExcW r (fun m => OW (moD m) fun y => SetW d i (some (.d y)) N) (fun e => E e d))) : SXW (gAsgE i (eCall n F fs)) ds N R E := by
  obtain ⟨as, d, e, hn, r, e2, q⟩ := k
  cases r with
  | error x => exact ⟨.ex x d, by unfold gAsgE eCall; rw [e, Option.bind_some]; dsimp only; rw [if_pos hn, e2]; rfl, q⟩
  | ok m =>
    obtain ⟨y, ey, q⟩ := q
    cases m with
    | d x => cases ey; exact ⟨.out (.nx (d.set i (some (.d y)))), by unfold gAsgE eCall; rw [e, Option.bind_some]; dsimp only; rw [if_pos hn, e2]; rfl, q⟩
    | lst xs => cases ey; exact ⟨.out (.nx (d.set i (some (.d (.list xs))))), by unfold gAsgE eCall; rw [e, Option.bind_some]; dsimp only; rw [if_pos hn, e2]; rfl, q⟩
    | _ => cases ey
theorem okX_ok {o : Option (Except Exc (MO S))} {m : MO S} (h : o = some (.ok m)) : okX o = some m := by rw [h]; rfl
end
theorem xw_callEL {j : Nat} {F : Exc → List D → Option (MO Exc × Exc)} {ds : DS Exc} {XM : MO Exc → DS Exc → Prop} {e e2 : Exc} {ys : List D} (e0 : stAt ds j = some e) (e1 : F e [] = some (.lst ys, e2)) (q : XM (.lst ys) ds) : XW (xCallE j F) ds XM := ⟨.lst ys, ds, by unfold xCallE; rw [e0, Option.bind_some, e1]; rfl, q⟩
section
variable {TBL : TabL}
section
variable {S : Type} {ds : DS S} {Q : D → Prop} {QL : List D → Prop} {g : DS S → Option D} {x : Str} {i j n : Nat}
variable {X : D → DS S → Prop} {XM : MO S → DS S → Prop} {fl : XF S (List D)} {u : SF S}
theorem xw_cV {F : List (Key × D) → List D → Option (MO S × List (Key × D))} {s0 : List (Key × D)} (e0 : dicKs ds i = some s0) (k : XW fl ds fun as ds1 => OW (dicKs ds1 i) fun s => AW (as.length + 1 = n) (PW2 (F s as) fun r s' => SetW ds1 i (some (.dic s')) fun ds2 => XM r ds2)) : XW (oCallV n i F fl) ds XM := by
  obtain ⟨as, ds1, e, s, e1, n1, r, s', e2, q⟩ := k
  exact ⟨r, _, by unfold oCallV; rw [e0, Option.bind_some]; exact xb_ev e (by rw [e1, Option.bind_some, if_pos n1, e2]; rfl), q⟩
theorem pw_runV {xs : List (Key × D)} {as : List D} {Z : MO S → List (Key × D) → Prop} (d0 : DS S) (e0 : startD n (.dic xs :: as.map .d) = d0) (k : SW u d0 (fun ds => OW (dicKs ds 0) fun s' => Z (.d .none) s') (fun m ds => OW (dicKs ds 0) fun s' => Z m s') (fun _ => False) (fun _ => False)) : PW2 (runV n u xs as) Z := by
  subst e0
  obtain ⟨o, e, q⟩ := k
  unfold runV
  rw [e]
  cases o with
  | nx d => obtain ⟨s', e2, q⟩ := q; exact ⟨_, s', by show (dicKs d 0).map _ = _; rw [e2]; rfl, q⟩
  | rt m d => obtain ⟨s', e2, q⟩ := q; exact ⟨_, s', by show (dicKs d 0).map _ = _; rw [e2]; rfl, q⟩
  | bk d => exact q.elim
  | ct d => exact q.elim
theorem xw_dgetG {kvs : List (Key × D)} (e0 : dicKs ds j = some kvs) (k : OW (g (hideDS ds)) fun x => OW (keyOf1 x) fun k => OW (lookD kvs k) fun d => X d ds) : XW (xDGetG j g) ds X := by
  obtain ⟨x, e1, kk, e2, d, e3, q⟩ := k
  exact ⟨d, ds, by unfold xDGetG; rw [e0, Option.bind_some, e1, Option.bind_some, e2, Option.bind_some, e3]; rfl, q⟩
theorem xw_dict4 {s1 s2 s3 s4 : Str} {i1 i2 i3 : Int} (k : OW (g (hideDS ds)) fun x => XM (.dic (putD (putD (putD (putD [] (.inr s1) x) (.inr s2) (.int i1)) (.inr s3) (.int i2)) (.inr s4) (.int i3))) ds) : XW (oDict4 s1 s2 s3 s4 g i1 i2 i3) ds XM := by
  obtain ⟨x, e, q⟩ := k
  exact ⟨_, ds, by unfold oDict4; rw [e]; rfl, q⟩
theorem ow_scSl {gl gh : DS S → Option (Option Int)} {ns : List Int} (e0 : ds[j]? = some (some (.scr ns))) (hz : ns.length ≤ sizeLine) (k : OW (gl ds) fun l => OW (gh ds) fun h => QL (cutD (ns.map .int) l h)) : OW (gScSl j gl gh ds) QL := by
  obtain ⟨l, e1, h, e2, q⟩ := k
  exact ⟨_, by unfold gScSl; rw [e0]; dsimp only; rw [if_pos hz, e1, Option.bind_some, e2]; rfl, q⟩
theorem ow_asg2 {js : List Nat} {y z : D} {Z : List (Nat × D) → Prop} (k : OW (asgT js z) fun l => Z ((i, y) :: l)) : OW (asg2 i js (.tuple [y, z])) Z := by
  obtain ⟨l, e, q⟩ := k
  exact ⟨_, by show (asgT js z).map _ = _; rw [e]; rfl, q⟩
end
end
end DL
set_option Elab.async false
set_option linter.all false
set_option maxRecDepth 100000
set_option maxHeartbeats 4000000
namespace LAW
open PySem PySem.Spec L2 DL PyProof.Rows
local macro_rules | `(tactic| walk_at "ws") => `(tactic| with_reducible first | refine sw_seq ?_ | refine sw_asg ?_ | refine sw_drop ?_ | refine sw_if ?_ | refine sw_next ?_ | refine sw_ret ?_ | refine sw_for ?_ | refine sw_asgT ?_ | refine sw_par2 ?_ | refine sw_par3 ?_ | refine sw_parN ?_ | refine sw_setI ?_ | refine sw_dput ?_ | refine sw_dputB ?_ | refine fw_nil ?_ | refine sw_retN ?_ | refine sw_brk ?_ | refine sw_cnt ?_)
local macro_rules | `(tactic| walk_at "wx") => `(tactic| first | (with_reducible first | refine xw_P ?_ | refine xw_oX ?_ | refine xw_O ?_ | refine xw_cons ?_ | refine xw_nil ?_ | refine xw_B ?_ | refine xw_oP ?_ | refine xw_oB ?_ | refine xw_iP ?_ | refine xw_tP ?_ | refine xw_op ?_ | refine xw_opF ?_ | refine xw_un ?_ | refine xw_tup ?_ | refine xw_lst ?_ | refine xw_call ?_ | refine xw_callF ?_ | refine xw_args ?_ | refine xw_src ?_ | refine xw_bool ?_ | refine xw_tr ?_ | refine xw_not ?_ | refine xw_an ?_ | refine xw_or0 ?_ | refine xw_if ?_ | refine xw_orV ?_ | refine xw_cP ?_ | refine xw_oCons ?_ | refine xw_oNil ?_ | refine xw_yes ?_ | refine xw_dict ?_ | refine xw_dictNew ?_ | refine xw_andV ?_) | ((with_reducible refine' xw_dItems ?ee _); (case ee => exact rfl)) | ((with_reducible refine' xw_move ?ee _); (case ee => exact rfl)) | ((with_reducible refine' xw_mt ?ee _); (case ee => exact rfl)) | ((with_reducible refine' xw_cS ?ee _); (case ee => exact rfl)) | ((with_reducible refine' xw_cC ?ee _); (case ee => exact rfl)))
local macro_rules | `(tactic| walk_at "wo") => `(tactic| first | (with_reducible first | refine ow_op ?_ | refine ow_C ?_ | refine ow_cons ?_ | refine ow_nil ?_ | refine ow_call ?_ | refine ow_callP ?_ | refine ow_toD ?_ | refine ow_toL ?_ | refine ow_toK ?_ | refine ow_toD0 ?_ | refine ow_toL0 ?_ | refine ow_args ?_ | refine ow_src ?_ | refine ow_L ?_ | refine ow_B ?_ | refine ow_tr ?_ | refine ow_tup ?_ | refine ow_lst ?_ | refine ow_and ?_ | refine ow_or ?_ | refine ow_not ?_ | refine ow_andV ?_ | refine ow_orV ?_ | refine ow_notV ?_ | refine ow_if ?_ | refine ow_chain ?_ | refine ow_slA ?_ | refine ow_part ?_ | refine ow_noPart ?_ | refine ow_un ?_ | refine ow_op2 ?_ | refine ow_opF ?_ | refine ow_isi ?_ | refine ow_split ?_ | refine ow_yes ?_) | ((with_reducible refine' ow_var ?ee _); (case ee => exact rfl)) | ((with_reducible refine' ow_dget ?ee _); (case ee => exact rfl)) | ((with_reducible refine' ow_din ?ee _); (case ee => exact rfl)))
local macro_rules | `(tactic| walk_at "wl") => `(tactic| first | (with_reducible first | refine bw_mk ?_ | refine intw_mk ?_ | refine iw_T ?_ | refine iw_F ?_ | refine iw_self ?_ | refine iw_nself ?_ | refine iw_nT ?_ | refine iw_nF ?_ | refine setwS ?_ | refine setw0 ?_ | refine setdwS ?_ | refine setdw0 ?_ | refine setdwZ ?_ | refine setdwZ0 ?_ | refine setmwS ?_ | refine setmw0 ?_ | refine ex2_mk ?_ | refine ex3_mk ?_ | refine ow_some ?_ | refine ow_add ?_ | refine ow_sub ?_ | refine ow_lt ?_ | refine ow_le ?_ | refine ow_gt ?_ | refine ow_ge ?_ | refine ow_eqI ?_ | refine ow_neI ?_ | refine ow_eqS ?_ | refine ow_neS ?_ | refine ow_truB ?_ | refine ow_lenLm ?_ | refine ow_lenTm ?_ | refine ow_lenL ?_ | refine ow_lenT ?_ | refine ow_lenS ?_ | refine ow_tupleL ?_ | refine ow_tupleT ?_ | refine ow_listL ?_ | refine ow_listT ?_ | refine ow_srcL ?_ | refine ow_srcT ?_ | refine ow_intB ?_ | refine ow_min ?_ | refine ow_max ?_ | refine ow_isN_n ?_ | refine ow_isN_i ?_ | refine ow_notN_n ?_ | refine ow_notN_i ?_ | refine ow_notN_s ?_ | refine ow_neg ?_ | refine ow_ix0L ?_ | refine ow_ix0T ?_ | refine ow_keyS ?_ | refine ow_keyI ?_) | ((with_reducible refine' ow_lstAt ?ee _); (case ee => exact rfl)) | ((with_reducible refine' ow_stAt ?ee _); (case ee => exact rfl)) | ((with_reducible refine' ow_dicKs ?ee _); (case ee => exact rfl)) | ((with_reducible refine aw_mk ?ee ?_); (case ee => first | exact rfl | exact le_size rfl)) | (with_reducible refine ow_mod (by decide) ?_) | (with_reducible refine ow_div (by decide) (by decide) ?_) | (with_reducible refine ow_mulR (by decide) ?_) | (with_reducible refine ow_mulL (by decide) ?_) | (with_reducible refine ow_appm (by omega) ?_) | ((with_reducible refine' ow_ix (y := PyData.int (OfNat.ofNat _)) ?ee _); (case ee => exact rfl)) | ((with_reducible refine' ow_asgT ?ee _); (case ee => exact rfl)))
local macro_rules | `(tactic| walk_at "w") => `(tactic| repeat (first | walk_at "wx" | walk_at "wo" | walk_at "wl" | walk_at "ws"))
local macro_rules | `(tactic| walk_at "wq") => `(tactic| first | (with_reducible first | refine sw_forK rfl ?_ | refine xw_callA ?_ | refine ow_fld ?_ | refine ow_meth ?_ | refine ow_slF ?_ | refine ow_slL ?_ | refine ow_zipTL ?_ | refine ow_zip2T ?_ | refine ow_zip2L ?_ | refine xw_oMeth ?_ | refine xw_make ?_ | refine xw_noPart ?_ | refine xw_part ?_ | refine xw_sl3 ?_ | refine xw_step ?_ | refine xw_oIf ?_ | refine sw_setFld ?_ | refine ow_ixk ?_ | refine ow_ink ?_ | refine lsw_mk ?_) | ((with_reducible refine' xw_mtF ?ee _); (case ee => exact rfl)) | ((with_reducible refine' xw_frz ?ee _); (case ee => exact rfl)) | ((with_reducible refine' xw_moveK ?ee _); (case ee => exact rfl)) | ((with_reducible refine' xw_frzK ?ee _); (case ee => exact rfl)) | ((with_reducible refine' xw_frzD ?ee _); (case ee => exact rfl)) | ((with_reducible refine' xw_cU ?ee _); (case ee => exact rfl)) | ((with_reducible refine' xw_cM ?ee _); (case ee => exact rfl)) | ((with_reducible refine' xw_cB ?ee _); (case ee => exact rfl)) | ((with_reducible refine' xw_scLen ?ee _); (case ee => exact rfl)) | ((with_reducible refine' xw_scIx ?ee _); (case ee => exact rfl)) | ((with_reducible refine' xw_ixL ?ee _); (case ee => exact rfl)) | ((with_reducible refine' ow_objAt ?ee _); (case ee => exact rfl)) | ((with_reducible refine' ow_scrAt ?ee _); (case ee => exact rfl)) | ((with_reducible refine' ow_dgetN ?ee _); (case ee => exact rfl)))
local macro_rules | `(tactic| walk_at "w") => `(tactic| repeat (first | walk_at "wx" | walk_at "wo" | walk_at "wl" | walk_at "ws" | walk_at "wq"))
local macro_rules | `(tactic| walk_at "wy") => `(tactic| first | (with_reducible first | refine xw_P ?_ | refine xw_oX ?_ | refine xw_O ?_ | refine xw_cons ?_ | refine xw_nil ?_ | refine xw_B ?_ | refine xw_oP ?_ | refine xw_oB ?_ | refine xw_iP ?_ | refine xw_tP ?_ | refine xw_op ?_ | refine xw_opF ?_ | refine xw_un ?_ | refine xw_tup ?_ | refine xw_lst ?_ | refine xw_call ?_ | refine xw_callF ?_ | refine xw_args ?_ | refine xw_src ?_ | refine xw_bool ?_ | refine xw_tr ?_ | refine xw_not ?_ | refine xw_an ?_ | refine xw_or0 ?_ | refine xw_if ?_ | refine xw_cP ?_ | refine xw_oCons ?_ | refine xw_oNil ?_ | refine xw_yes ?_ | refine xw_dict ?_ | refine xw_dictNew ?_ | refine xw_andV ?_) | ((with_reducible refine' xw_dItems ?ee _); (case ee => exact rfl)) | ((with_reducible refine' xw_move ?ee _); (case ee => exact rfl)) | ((with_reducible refine' xw_mt ?ee _); (case ee => exact rfl)) | ((with_reducible refine' xw_cS ?ee _); (case ee => exact rfl)) | ((with_reducible refine' xw_cC ?ee _); (case ee => exact rfl)))
local macro_rules | `(tactic| walk_at "w0") => `(tactic| repeat (first | walk_at "wy" | walk_at "wo" | walk_at "wl" | walk_at "ws" | walk_at "wq"))
local macro_rules | `(tactic| walk_at "wt") => `(tactic| with_reducible first | refine sw_seq ?_ | refine sw_asg ?_ | refine sw_drop ?_ | refine sw_next ?_ | refine sw_ret ?_ | refine sw_for ?_ | refine sw_asgT ?_ | refine sw_par2 ?_ | refine sw_par3 ?_ | refine sw_parN ?_ | refine sw_setI ?_ | refine sw_dput ?_ | refine sw_dputB ?_ | refine fw_nil ?_ | refine sw_retN ?_ | refine sw_brk ?_ | refine sw_cnt ?_)
local macro_rules | `(tactic| walk_at "w1") => `(tactic| repeat (first | walk_at "wy" | walk_at "wo" | walk_at "wl" | walk_at "wt" | walk_at "wq"))
local macro_rules | `(tactic| walk_at "wn") => `(tactic| first | (with_reducible first | refine ow_op ?_ | refine ow_C ?_ | refine ow_cons ?_ | refine ow_nil ?_ | refine ow_call ?_ | refine ow_callP ?_ | refine ow_toD ?_ | refine ow_toL ?_ | refine ow_toK ?_ | refine ow_toD0 ?_ | refine ow_toL0 ?_ | refine ow_args ?_ | refine ow_src ?_ | refine ow_L ?_ | refine ow_B ?_ | refine ow_tr ?_ | refine ow_tup ?_ | refine ow_lst ?_ | refine ow_and ?_ | refine ow_or ?_ | refine ow_not ?_ | refine ow_andV ?_ | refine ow_orV ?_ | refine ow_notV ?_ | refine ow_chain ?_ | refine ow_slA ?_ | refine ow_part ?_ | refine ow_noPart ?_ | refine ow_un ?_ | refine ow_op2 ?_ | refine ow_opF ?_ | refine ow_isi ?_ | refine ow_split ?_ | refine ow_yes ?_) | ((with_reducible refine' ow_var ?ee _); (case ee => exact rfl)) | ((with_reducible refine' ow_dget ?ee _); (case ee => exact rfl)) | ((with_reducible refine' ow_din ?ee _); (case ee => exact rfl)))
local macro_rules | `(tactic| walk_at "w2") => `(tactic| repeat (first | walk_at "wy" | walk_at "wn" | walk_at "wl" | walk_at "wt" | walk_at "wq"))
local macro_rules | `(tactic| walk_at "wX") => `(tactic| with_reducible first | refine sxw_seq ?_ | refine sxw_lift ?_ | refine sxw_if ?_ | refine sxw_next ?_ | refine sxw_raiseF ?_ | refine sxw_raise ?_ | refine sxw_drop ?_ | refine sxw_asgC ?_ | refine sw_tryC ?_ | refine ex1_mk ?_ | refine excw_ok ?_ | refine excw_er ?_ | refine ow_moD ?_ | refine ow_moL ?_)
local macro_rules | `(tactic| walk_at "wX1") => `(tactic| repeat (first | walk_at "wy" | walk_at "wo" | walk_at "wl" | walk_at "wt" | walk_at "wq" | walk_at "wX"))
local macro_rules | `(tactic| walk_at "wv") => `(tactic| first | (with_reducible first | refine xw_dict4 ?_ | refine ow_asg2 ?_) | (first | refine xw_cV rfl ?_ | refine xw_dgetG rfl ?_ | refine ow_dicKs rfl ?_ | refine ow_dget rfl ?_))
local macro_rules | `(tactic| walk_at "wY1") => `(tactic| repeat (first | walk_at "wy" | walk_at "wo" | walk_at "wl" | walk_at "wt" | walk_at "wq" | walk_at "wX" | walk_at "wv"))
local macro_rules | `(tactic| walk_at "wY2") => `(tactic| repeat (first | walk_at "wy" | walk_at "wn" | walk_at "wl" | walk_at "wt" | walk_at "wq" | walk_at "wX" | walk_at "wv"))
def stK (cells : List Int) (k c l : Int) : List (Key × D) := [(.inr "cells", .list (cells.map .int)), (.inr "at", .int k), (.inr "cell", .int c), (.inr "left", .int l)]
def SK (b : Nat) (s : List (Key × D)) : Prop := ∃ cells k c l, s = stK cells k c l ∧ 0 ≤ k ∧ k + b ≤ 2 ^ 40 ∧ 0 ≤ c ∧ 0 ≤ l ∧ cells.length ≤ 63
theorem SK.mono {a b : Nat} {s : List (Key × D)} (h : SK b s) (l : a ≤ b) : SK a s := by
  obtain ⟨cells, k, c, l, e, h1, h2, h3⟩ := h
  exact ⟨cells, k, c, l, e, h1, by omega, h3⟩
theorem st_cells {cells : List Int} {k c l : Int} : lookD (stK cells k c l) (.inr "cells") = some (.list (cells.map .int)) := rfl
theorem st_at {cells : List Int} {k c l : Int} : lookD (stK cells k c l) (.inr "at") = some (.int k) := rfl
theorem st_cell {cells : List Int} {k c l : Int} : lookD (stK cells k c l) (.inr "cell") = some (.int c) := rfl
theorem st_left {cells : List Int} {k c l : Int} : lookD (stK cells k c l) (.inr "left") = some (.int l) := rfl
theorem pu_at {cells : List Int} {k c l z : Int} : putD (stK cells k c l) (.inr "at") (.int z) = stK cells z c l := rfl
theorem pu_left {cells : List Int} {k c l z : Int} : putD (stK cells k c l) (.inr "left") (.int z) = stK cells k c z := rfl
theorem noD_ints : ∀ ns : List Int, noDAll (ns.map .int) = true
  | [] => rfl
  | n :: r => by
    show (true && noDAll (r.map .int)) = true
    rw [noD_ints r]
    rfl
theorem eq_nilL {xs : List D} (h : noDAll xs = true) : eqD (.list xs) (.list []) = some (.bool xs.isEmpty) := by
  unfold eqD
  rw [if_pos ⟨Nat.le_trans (Nat.min_le_right _ _) (by decide), h, rfl⟩]
  cases xs <;> rfl
theorem cell_at {cells : List Int} {i : Int} (h0 : 0 ≤ i) (h1 : i < cells.length) : ∃ z : Int, ixD (.list (cells.map .int)) (.int i) = some (.int z) := by
  obtain ⟨j, rfl⟩ := Int.eq_ofNat_of_zero_le h0
  have hj : j < cells.length := by omega
  exact ⟨cells[j], ixL_nat (by rw [List.getElem?_map, List.getElem?_eq_getElem hj]; rfl)⟩
theorem xw_imp {S α : Type} {f : XF S α} {ds : DS S} {P Q : α → DS S → Prop} (h : XW f ds P) (i : ∀ x d, P x d → Q x d) : XW f ds Q := by
  obtain ⟨x, d, e, p⟩ := h
  exact ⟨x, d, e, i x d p⟩
def g_next_rest : SF St2 := (gSeq (gIfS (xtP (gB (gOp gtD (gDGet 0 (gC (.str "left"))) (gC (.int 0)))))
  (gSeq (gAsg 3 (oX (xB (gOp modD (gDGet 0 (gC (.str "left"))) (gVar 1)))))
  (gSeq (gDPut 0 (xB (gOp divD (gDGet 0 (gC (.str "left"))) (gVar 1))) (gC (.str "left")))
  (gRet (oX (xP (gVar 3))))))
  gNext)
  (gSeq (gAsg 4 (oX (xB (gDGet 0 (gC (.str "at"))))))
  (gSeq (gDPut 0 (xP (gOp addA (gVar 4) (gC (.int 1)))) (gC (.str "at")))
  (gSeq (gAsg 5 (oX (xP (gL (gLst (gCons (gC (.int 2147483629)) (gCons (gC (.int 2147483587)) (gCons (gC (.int 2147483579)) (gCons (gC (.int 2147483563)) (gCons (gC (.int 2147483549)) (gCons (gC (.int 2147483543)) (gCons (gC (.int 2147483497)) gNil))))))))))))
  (gSeq (gAsg 6 (oX (xP (gIf (gB (gOp eqD (gVar 2) (gL (gLst gNil)))) (gC (.int 5)) (gOp modD (gOp ixD (gVar 2) (gOp modD (gVar 4) (gCall (gCons (gVar 2) gNil) lenD))) (gOp ixD (gVar 5) (gOp modD (gVar 4) (gC (.int 7)))))))))
  (gSeq (gAsg 7 (oX (xP (gOp modD (gOp addA (gOp addA (gOp addA (gOp mulD (gVar 6) (gOp addA (gC (.int 48271)) (gOp mulD (gC (.int 2)) (gVar 4)))) (gOp mulD (gOp mulD (gC (.int 69621)) (gVar 4)) (gVar 4))) (gOp mulD (gC (.int 7919)) (gVar 4))) (gC (.int 104729))) (gC (.int 2147483647))))))
  (gRet (oX (xP (gOp modD (gOp divD (gOp modD (gOp mulD (gVar 7) (gC (.int 40692))) (gC (.int 2147483629))) (gC (.int 7))) (gVar 1)))))))))))
theorem prime7 {i : Int} (h0 : 0 ≤ i) (h1 : i < 7) : ∃ p : Int, ixD (.list [.int 2147483629, .int 2147483587, .int 2147483579, .int 2147483563, .int 2147483549, .int 2147483543, .int 2147483497]) (.int i) = some (.int p) ∧ 0 < p ∧ p < 2 ^ 31 := by
  have : i = 0 ∨ i = 1 ∨ i = 2 ∨ i = 3 ∨ i = 4 ∨ i = 5 ∨ i = 6 := by omega
  rcases this with rfl | rfl | rfl | rfl | rfl | rfl | rfl <;> exact ⟨_, rfl, by decide, by decide⟩
theorem w_next {b : Nat} {s : List (Key × D)} {n : Int} {Q : MO St2 → List (Key × D) → Prop} (w : SK (b + 1) s) (h : 0 < n) (h2 : n < 2 ^ 90) (q : ∀ (r : Int) s', 0 ≤ r → r < n → SK b s' → Q (.d (.int r)) s') : PW2 (F_law_next s [.int n]) Q := by
  obtain ⟨cells, k, c, l, rfl, k0, kb, c0, l0, c63⟩ := w
  unfold F_law_next g_law_next
  refine pw_runV [some (.dic (stK cells k c l)), some (.d (.int n)), none, none, none, none, none, none] rfl ?_
  walk_at "wY1"
  refine ow_eq st_cells ?_
  walk_at "wY1"
  have after : ∀ c l : Int, 0 ≤ c → 0 ≤ l → ∀ ds : DS2, ds = [some (.dic (stK cells k c l)), some (.d (.int n)), some (.d (.list (cells.map .int))), none, none, none, none, none] → SW g_next_rest ds (fun ds => OW (dicKs ds 0) fun s' => Q (.d .none) s') (fun m ds => OW (dicKs ds 0) fun s' => Q m s') (fun _ => False) (fun _ => False) := by
    rintro c l c0 l0 ds rfl
    unfold g_next_rest
    walk_at "wY1"
    refine sw_if ?_
    walk_at "wY1"
    refine ow_eq st_left ?_
    walk_at "wY1"
    refine ⟨fun hl => ?_, fun hl => ?_⟩
    · walk_at "wY1"
      refine ow_eq st_left ?_
      walk_at "wY1"
      refine ow_mod h ?_
      walk_at "wY1"
      refine ow_eq st_left ?_
      walk_at "wY1"
      refine ow_div h (by omega) ?_
      walk_at "wY1"
      rw [pu_left]
      exact q _ _ (Int.emod_nonneg _ (by omega)) (Int.emod_lt_of_pos _ h) ⟨cells, k, c, l / n, rfl, k0, by omega, c0, Int.ediv_nonneg l0 (by omega), c63⟩
    · walk_at "wY1"
      refine ow_eq st_at ?_
      walk_at "wY2"
      rw [pu_at]
      walk_at "wY2"
      refine ow_imp (P := fun x => ∃ y : Int, x = PyData.int y ∧ 0 ≤ y ∧ y < 2 ^ 31) ?_ ?_
      · walk_at "wY1"
        refine ow_eq (eq_nilL (noD_ints cells)) ?_
        walk_at "wY1"
        refine ⟨fun he => ?_, fun he => ?_⟩
        · walk_at "wY1"
          exact ⟨5, rfl, by decide, by decide⟩
        · have hl : 0 < cells.length := by
            cases cells with
            | nil => cases he
            | cons a r => rw [List.length_cons]; omega
          walk_at "wY1"
          refine ow_mod (by omega) ?_
          walk_at "wY1"
          obtain ⟨z, ez⟩ := cell_at (cells := cells) (i := k % (cells.length : Int)) (Int.emod_nonneg _ (by omega)) (Int.emod_lt_of_pos _ (by omega))
          refine ow_eq ez ?_
          walk_at "wY1"
          obtain ⟨p, ep, p0, p1⟩ := prime7 (i := k % 7) (by omega) (by omega)
          refine ow_eq ep ?_
          walk_at "wY1"
          refine ow_mod p0 ?_
          exact ⟨_, rfl, Int.emod_nonneg _ (by omega), Int.lt_trans (Int.emod_lt_of_pos _ p0) p1⟩
      rintro x ⟨y, rfl, y0, y1⟩
      walk_at "wY1"
      refine ow_mulL (by omega) ?_
      walk_at "wY1"
      refine ow_mulR (by omega) ?_
      walk_at "wY1"
      refine ow_mod h ?_
      walk_at "wY1"
      exact q _ _ (Int.emod_nonneg _ (by omega)) (Int.emod_lt_of_pos _ h) ⟨cells, k + 1, c, l, rfl, by omega, by omega, c0, l0, c63⟩
  refine sw_while (fun m ds => ∃ c l : Int, 0 ≤ c ∧ 0 ≤ l ∧ m = cells.length - c.toNat ∧ ds = [some (.dic (stK cells k c l)), some (.d (.int n)), some (.d (.list (cells.map .int))), none, none, none, none, none]) (cells.length - c.toNat) (by omega) ⟨c, l, c0, l0, rfl, rfl⟩ ?_
  rintro m ds ⟨c, l, c0, l0, rfl, rfl⟩
  refine xw_imp (P := fun b ds1 => ds1 = [some (.dic (stK cells k c l)), some (.d (.int n)), some (.d (.list (cells.map .int))), none, none, none, none, none] ∧ (b = true → c < cells.length)) ?_ ?_
  · walk_at "wY1"
    refine ow_eq st_left ?_
    walk_at "wY1"
    refine ⟨fun _ => ?_, fun _ => ⟨rfl, nofun⟩⟩
    walk_at "wY1"
    refine ow_eq st_cell ?_
    walk_at "wY1"
    refine ⟨fun hc => ?_, fun _ => ⟨rfl, nofun⟩⟩
    have hc : c < cells.length := by simpa using hc
    walk_at "wY1"
    obtain ⟨z, ez⟩ := cell_at (cells := cells) (i := 0) (by omega) (by omega)
    refine ow_eq ez ?_
    walk_at "wY1"
    exact ⟨rfl, fun _ => hc⟩
  rintro b ds1 ⟨rfl, hb⟩
  refine ⟨fun ht => ?_, fun _ => after c l c0 l0 _ rfl⟩
  have hc := hb ht
  obtain ⟨z, ez⟩ := cell_at (cells := cells) c0 hc
  walk_at "wY1"
  refine ow_eq st_cell ?_
  walk_at "wY1"
  refine ow_eq ez ?_
  walk_at "wY1"
  refine ow_eq (show absD [.int z] = some (.int (if z < 0 then -z else z)) from rfl) ?_
  walk_at "wY1"
  refine ow_eq st_cell ?_
  walk_at "wY1"
  refine ow_imp (P := fun x => ∃ y : Int, x = PyData.int y ∧ 0 < y ∧ y < 3) ?_ ?_
  · by_cases h0 : c = 0
    · rw [decide_eq_true h0]
      exact ⟨_, rfl, 2, rfl, by decide, by decide⟩
    · rw [decide_eq_false h0]
      exact ⟨_, rfl, 1, rfl, by decide, by decide⟩
  rintro x ⟨y, rfl, y0, y1⟩
  walk_at "wY1"
  refine ow_div y0 (by omega) ?_
  walk_at "wY1"
  refine ow_eq st_cell ?_
  walk_at "wY1"
  refine ⟨cells.length - (c + 1).toNat, by omega, c + 1, _, by omega, ?_, rfl, rfl⟩
  exact Int.ediv_nonneg (by split <;> omega) (by omega)
set_option Elab.async false
set_option linter.all false
set_option maxRecDepth 100000
set_option maxHeartbeats 4000000
structure Rl where
  e : Nat
  o : Nat
  m : Nat
  a : Nat
def encRl (r : Rl) : D := .tuple [.int (r.e : Nat), .int (r.o : Nat), .int (r.m : Nat), .int (r.a : Nat)]
structure GRl (r : Rl) : Prop where
  e1 : 1 ≤ r.e
  e2 : r.e ≤ 20
  o1 : r.e ≤ r.o
  o2 : r.o ≤ 30
  m1 : 1 ≤ r.m
  m2 : r.m ≤ 10
  a2 : r.a ≤ 20
abbrev Pr := Int × Str
def eP (p : Pr) : D := .tuple [.int p.1, .str p.2]
structure HRow where
  day : Int
  word : Str
  shown : List Int
def lastN {α : Type} (n : Nat) (l : List α) : List α := l.drop (l.length - n)
abbrev IsMk (mk : List D → D) : Prop := mk = PyData.list ∨ mk = PyData.tuple
theorem slA_mk {mk : List D → D} (h : IsMk mk) {xs : List D} {lo hi : Option Int} : slA (mk xs) lo hi = some (mk (DL.cutD xs lo hi)) := by rcases h with rfl | rfl <;> rfl
theorem cut_neg {xs : List D} {m : Nat} (h : 1 ≤ m) : DL.cutD xs (some (-(m : Int))) none = lastN m xs := by
  unfold DL.cutD lastN
  rw [HT.sIx_none, show HT.sIx xs.length 0 (some (-(m : Int))) = xs.length - m by
    show (if -(m : Int) < 0 then (-(m : Int) + (xs.length : Int)).toNat else _) = _
    rw [if_pos (by omega)]
    omega]
  exact List.take_of_length_le (by rw [List.length_drop]; omega)
theorem cut_from {xs : List D} {m : Nat} : DL.cutD xs (some (m : Int)) none = xs.drop m := by
  unfold DL.cutD
  rw [HT.sIx_none, HT.sIx_nat]
  by_cases h : m ≤ xs.length
  · rw [show min m xs.length = m by omega]
    exact List.take_of_length_le (by rw [List.length_drop]; omega)
  · rw [show min m xs.length = xs.length by omega, List.drop_eq_nil_of_le (Nat.le_refl _), List.drop_eq_nil_of_le (by omega), List.take_nil]
structure RS where
  fd : List HRow
  bg : Nat
  er : Option Nat
structure RI (n : Nat) (s : RS) : Prop where
  len : s.fd.length ≤ n
  bg : s.bg ≤ n
  er : ∀ k, s.er = some k → s.bg ≤ k ∧ k < n
section
variable {r : Rl} {ps : List Pr} {eb : Option Nat}
end
theorem iw_nd {p : Prop} [Decidable p] {P Q : Prop} (h : p) (q : Q) : IW (!decide p) P Q := iw_f (by rw [decide_eq_true h]; rfl) q
theorem needRules_ok {r : Rl} (g : GRl r) : FX_need_rules [encRl r] = some (.ok (.d .none)) := by
  obtain ⟨ge1, ge2, go1, go2, gm1, gm2, ga2⟩ := g
  refine ow_get ?_
  unfold FX_need_rules g_need_rules
  refine ow_runPX [some (.d (.tuple [.int (r.e : Nat), .int (r.o : Nat), .int (r.m : Nat), .int (r.a : Nat)])), none] rfl ?_
  walk_at "wY1"
  refine ow_eq k_tt ?_
  walk_at "wY1"
  refine iw_f rfl ?_
  walk_at "wY1"
  refine ow_lcAll [r.e, r.o, r.m, r.a] (fun k : Nat => .int (k : Nat)) (fun _ => .bool true) ?_
  walk_at "wY1"
  refine ⟨rfl, fun k hk => ?_, ?_⟩
  · walk_at "wY1"
    refine ow_eq (whole_ok (by omega) (by simp at hk; omega)) ?_
    walk_at "wY1"
    rfl
  walk_at "wY1"
  refine ow_eq (all_true (l := [true, true, true, true]) (by simp)) ?_
  walk_at "wY1"
  refine iw_t (decide_eq_true (by omega)) ?_
  walk_at "wY1"
  refine iw_nd (by omega) ?_
  walk_at "wY1"
  refine iw_f (decide_eq_false (by omega)) ?_
  walk_at "wY1"
  refine iw_t (decide_eq_true (by omega)) ?_
  walk_at "wY1"
  refine iw_nd (by omega) ?_
  walk_at "wY1"
  refine iw_f (decide_eq_false (by omega)) ?_
  walk_at "wY1"
  rfl
def W5 : List Str := ["came", "told", "missed", "given", "struck"]
def GPr (p : Pr) : Prop := 0 ≤ p.1 ∧ p.1 ≤ 9999 ∧ p.2 ∈ W5
def GFo (p q : Pr) : Prop := ¬ p.2 = "struck" ∧ (p.1 < q.1 ∨ (p.1 = q.1 ∧ p.2 = "given" ∧ ¬ q.2 = "given"))
structure GLn (l : List Pr) : Prop where
  len : l.length ≤ 2000
  all : ∀ p ∈ l, GPr p
  nx : ∀ i p q, l[i]? = some p → l[i + 1]? = some q → GFo p q
def encPP (q : Pr × Pr) : D := .tuple [eP q.1, eP q.2]
theorem zip_pp (l : List Pr) : zipD (l.map eP) (DL.cutD (l.map eP) (some 1) none) = (l.zip (l.drop 1)).map encPP := by
  rw [show DL.cutD (l.map eP) (some 1) none = (l.map eP).drop 1 from cut_from (m := 1), ← List.map_drop]
  unfold zipD
  rw [List.zip_map, List.map_map]
  rfl
def tys : List String := ["NoneType", "bool", "int", "str", "list", "tuple", "dict"]
theorem ty_mem {x : D} : tyD x ≠ "?" → tyD x ∈ tys := by
  unfold tyD
  split <;> intro h <;> first | decide | exact absurd rfl h
theorem kT {x : D} (h : tyD x ≠ "?") : kitB (tyD x) "tuple" = some (tyD x == "tuple") := (by decide +kernel : ∀ t ∈ tys, kitB t "tuple" = some (t == "tuple")) _ (ty_mem h)
theorem kS {x : D} (h : tyD x ≠ "?") : kitB (tyD x) "str" = some (tyD x == "str") := (by decide +kernel : ∀ t ∈ tys, kitB t "str" = some (t == "str")) _ (ty_mem h)
theorem kB {x : D} (h : tyD x ≠ "?") : kitB (tyD x) "bool" = some (tyD x == "bool") := (by decide +kernel : ∀ t ∈ tys, kitB t "bool" = some (t == "bool")) _ (ty_mem h)
theorem kI {x : D} (h : tyD x ≠ "?") : kitB (tyD x) "int" = some (tyD x == "int" || tyD x == "bool") := (by decide +kernel : ∀ t ∈ tys, kitB t "int" = some (t == "int" || t == "bool")) _ (ty_mem h)
theorem ty_tup {x : D} (h : (tyD x == "tuple") = true) : ∃ xs, x = .tuple xs := by
  revert h
  unfold tyD
  split <;> intro h <;> first | exact ⟨_, rfl⟩ | exact absurd h (by decide)
theorem ty_str {x : D} (h : (tyD x == "str") = true) : ∃ w, x = .str w := by
  revert h
  unfold tyD
  split <;> intro h <;> first | exact ⟨_, rfl⟩ | exact absurd h (by decide)
theorem ty_int {x : D} (h : (tyD x == "int" || tyD x == "bool") = true) (n : (tyD x == "bool") = false) : ∃ i, x = .int i := by
  revert h n
  unfold tyD
  split <;> intro h n <;> first | exact ⟨_, rfl⟩ | exact absurd h (by decide) | exact absurd n (by decide)
def wholeB (x : D) (lo hi : Int) : Bool := match x with
  | .int i => decide (lo ≤ i) && decide (i ≤ hi)
  | _ => false
theorem wholeB_no {x : D} {lo hi : Int} (h : ∀ i, x ≠ .int i) : wholeB x lo hi = false := by
  unfold wholeB
  split
  · exact absurd rfl (h _)
  · rfl
theorem whole_any {x : D} (h : tyD x ≠ "?") (lo hi : Int) : F_is_whole [x, .int lo, .int hi] = some (.d (.bool (wholeB x lo hi))) := by
  refine ow_get ?_
  unfold F_is_whole g_is_whole
  refine ow_runP [some (.d x), some (.d (.int lo)), some (.d (.int hi))] rfl ?_
  walk_at "wY1"
  refine ow_eq (kI h) ?_
  cases h1 : (tyD x == "int" || tyD x == "bool") with
  | false =>
    walk_at "wY1"
    rw [wholeB_no fun i e => by subst e; simp [tyD] at h1]
  | true =>
    walk_at "wY1"
    refine ow_eq (kB h) ?_
    cases h2 : (tyD x == "bool") with
    | true =>
      walk_at "wY1"
      rw [wholeB_no fun i e => by subst e; simp [tyD] at h2]
      rfl
    | false =>
      obtain ⟨i, rfl⟩ := ty_int h1 h2
      walk_at "wY1"
      refine ⟨fun a => ?_, fun a => ?_⟩
      · walk_at "wY1"
        simp [wholeB, of_decide_eq_true a]
      · have a := of_decide_eq_false a
        simp [wholeB, a]
def prOf : D → Option Pr
  | .tuple [.int d, .str w] => if 0 ≤ d ∧ d ≤ 9999 ∧ w ∈ W5 then some (d, w) else none
  | _ => none
def nq : Nat → D → Bool
  | 0, x => decide (tyD x ≠ "?")
  | n + 1, x => decide (tyD x ≠ "?") && match x with
    | .tuple xs => xs.all (nq n)
    | _ => true
theorem nq_ty {n : Nat} {x : D} (h : nq n x = true) : tyD x ≠ "?" := by
  cases n with
  | zero => exact of_decide_eq_true (by unfold nq at h; exact h)
  | succ n =>
    unfold nq at h
    exact of_decide_eq_true (Bool.and_eq_true_iff.mp h).1
theorem nq_el {n : Nat} {xs : List D} (h : nq (n + 1) (.tuple xs) = true) : ∀ y ∈ xs, nq n y = true := by
  unfold nq at h
  exact List.all_eq_true.mp (Bool.and_eq_true_iff.mp h).2
theorem prOf_not {x : D} (h : (tyD x == "tuple") = false) : prOf x = none := by
  unfold prOf
  split
  · simp [tyD] at h
  · rfl
def wordB (b : D) : Bool := match b with
  | .str w => decide (w ∈ W5)
  | _ => false
theorem wordB_no {b : D} (h : ∀ w, b ≠ .str w) : wordB b = false := by
  unfold wordB
  split
  · exact absurd rfl (h _)
  · rfl
theorem prOf_len {xs : List D} (h : xs.length ≠ 2) : prOf (.tuple xs) = none := by
  unfold prOf
  split
  · rename_i e
    cases e
    exact absurd rfl h
  · rfl
theorem prOf_pair (a b : D) : (prOf (.tuple [a, b])).isSome = (wholeB a 0 9999 && wordB b) := by
  cases a <;> cases b <;> try rfl
  · simp [prOf, wholeB, wordB]
  all_goals simp [prOf, wholeB, wordB]
  all_goals (try split <;> simp_all)
theorem iw_ne {n : Nat} {P Q : Prop} (h : n ≠ 2) (p : P) : IW (!decide ((n : Int) = 2)) P Q := iw_t (by rw [decide_eq_false (by omega)]; rfl) p
theorem pair_any {x : D} (h : nq 1 x = true) : F_is_pair [x] = some (.d (.bool (prOf x).isSome)) := by
  refine ow_get ?_
  unfold F_is_pair g_is_pair
  refine ow_runP [some (.d x)] rfl ?_
  walk_at "wY1"
  refine sw_if ?_
  walk_at "wY1"
  refine ow_eq (kT (nq_ty h)) ?_
  cases ht : (tyD x == "tuple") with
  | false =>
    walk_at "wY1"
    rw [prOf_not ht]
    rfl
  | true =>
    obtain ⟨xs, rfl⟩ := ty_tup ht
    walk_at "wY1"
    clear ht
    match xs, h with
    | [], _ =>
      refine iw_ne (by decide) ?_
      walk_at "wY1"
      rfl
    | [a], _ =>
      refine iw_ne (by simp) ?_
      walk_at "wY1"
      rw [prOf_len (by simp)]
      rfl
    | a :: b :: c :: r, _ =>
      refine iw_ne (by simp) ?_
      walk_at "wY1"
      rw [prOf_len (by simp)]
      rfl
    | [a, b], h =>
      refine iw_f rfl ?_
      walk_at "wY1"
      refine ow_eq (whole_any (nq_ty (nq_el h a (.head _))) 0 9999) ?_
      cases hw : wholeB a 0 9999 with
      | false =>
        walk_at "wY1"
        rw [prOf_pair, hw]
        rfl
      | true =>
        walk_at "wY1"
        refine ow_eq (kS (nq_ty (nq_el h b (.tail _ (.head _))))) ?_
        cases hs : (tyD b == "str") with
        | false =>
          walk_at "wY1"
          rw [prOf_pair, hw, wordB_no fun w e => by subst e; simp [tyD] at hs]
          rfl
        | true =>
          obtain ⟨w, rfl⟩ := ty_str hs
          walk_at "wY1"
          refine ow_eq (inT w W5) ?_
          rw [prOf_pair, hw]
          rfl
def flB (p q : Pr) : Bool := !decide (p.2 = "struck") && !decide (q.1 < p.1) && (decide (p.1 < q.1) || (decide (p.2 = "given") && !decide (q.2 = "given")))
theorem follow_any (p q : Pr) : F_may_follow [eP p, eP q] = some (.d (.bool (flB p q))) := by
  obtain ⟨d, w⟩ := p
  obtain ⟨d2, w2⟩ := q
  refine ow_get ?_
  unfold F_may_follow g_may_follow
  refine ow_runP [some (.d (.tuple [.int d, .str w])), some (.d (.tuple [.int d2, .str w2]))] rfl ?_
  walk_at "wY1"
  refine sw_if ?_
  walk_at "wY1"
  refine ⟨fun h1 => ?_, fun h1 => ?_⟩
  · walk_at "wY1"
    simp [flB, of_decide_eq_true h1]
  · have h1 := of_decide_eq_false h1
    walk_at "wY1"
    refine ⟨fun h2 => ?_, fun h2 => ?_⟩
    · walk_at "wY1"
      simp [flB, of_decide_eq_true h2]
    · have h2 := of_decide_eq_false h2
      walk_at "wY1"
      refine ⟨fun h3 => ?_, fun h3 => ?_⟩
      · have h3 := of_decide_eq_true h3
        walk_at "wY1"
        simp [flB, h1, h2, h3]
      · have h3 := of_decide_eq_false h3
        walk_at "wY1"
        refine ⟨fun h4 => ?_, fun h4 => ?_⟩
        · have h4 := of_decide_eq_true h4
          walk_at "wY1"
          simp [flB, h1, h2, h3, h4]
          exact fun _ => by decide +kernel
        · have h4 := of_decide_eq_false h4
          simp [flB, h1, h2, h3, h4]
def lnB (l : List Pr) : Bool := (l.zip (l.drop 1)).all fun q => flB q.1 q.2
def lineB (x : D) : Bool := match x with
  | .tuple xs => decide (xs.length ≤ 2000) && (match xs.mapM prOf with
    | some ps => lnB ps
    | none => false)
  | _ => false
theorem mapM_some : ∀ {xs : List D}, (∀ x ∈ xs, (prOf x).isSome = true) → ∃ ps, xs.mapM prOf = some ps ∧ xs = ps.map eP
  | [], _ => ⟨[], rfl, rfl⟩
  | x :: r, h => by
    obtain ⟨ps, e1, e2⟩ := mapM_some (xs := r) fun y hy => h y (.tail _ hy)
    obtain ⟨p, hp⟩ := Option.isSome_iff_exists.mp (h x (.head _))
    refine ⟨p :: ps, by rw [List.mapM_cons, hp, e1]; rfl, ?_⟩
    have : x = eP p := by
      unfold prOf at hp
      split at hp
      · split at hp
        · cases hp; rfl
        · cases hp
      · cases hp
    rw [this, e2]
    rfl
theorem mapM_none : ∀ {xs : List D} {x : D}, x ∈ xs → (prOf x).isSome = false → xs.mapM prOf = none
  | y :: r, x, h, e => by
    rw [List.mapM_cons]
    cases hp : prOf y with
    | none => rfl
    | some p =>
      rcases List.mem_cons.mp h with rfl | h
      · rw [hp] at e; cases e
      · rw [mapM_none h e]; rfl
theorem needLine_any {x : D} (h : nq 2 x = true) : FX_need_line [x] = some (if lineB x = true then .ok (.d .none) else .error ⟨"BadLineup", none⟩) := by
  refine ow_get ?_
  unfold FX_need_line g_need_line
  refine ow_runPX [some (.d x), none, none, none] rfl ?_
  walk_at "wY1"
  refine ow_eq (kT (nq_ty h)) ?_
  cases ht : (tyD x == "tuple") with
  | false =>
    walk_at "wY1"
    have : lineB x = false := by
      unfold lineB
      split
      · simp [tyD] at ht
      · rfl
    rw [this]
    rfl
  | true =>
    obtain ⟨xs, rfl⟩ := ty_tup ht
    walk_at "wY1"
    refine ⟨fun h1 => ?_, fun h1 => ?_⟩
    · have h1 := of_decide_eq_true h1
      walk_at "wY1"
      have : lineB (.tuple xs) = false := by
        show (decide (xs.length ≤ 2000) && _) = false
        rw [decide_eq_false (by omega)]
        rfl
      rw [this]
      rfl
    · have h1 := of_decide_eq_false h1
      walk_at "wY1"
      refine ow_lcAll xs (fun y => y) (fun y => .bool (prOf y).isSome) ?_
      walk_at "wY1"
      refine ⟨(List.map_id' xs).symm, fun y hy => ?_, ?_⟩
      · walk_at "wY1"
        refine ow_eq (pair_any (nq_el h y hy)) ?_
        walk_at "wY1"
        rfl
      walk_at "wY1"
      refine ow_eq (x := PyData.bool (xs.all fun y => (prOf y).isSome)) (by
        have := all_map (xs.map fun y => (prOf y).isSome)
        rw [List.map_map, List.all_map] at this
        exact this) ?_
      walk_at "wY1"
      refine ⟨fun h2 => ?_, fun h2 => ?_⟩
      · walk_at "wY1"
        have h2 : (xs.all fun y => (prOf y).isSome) = false := by simpa using h2
        obtain ⟨y, hy, e⟩ := List.all_eq_false.mp h2
        have : lineB (.tuple xs) = false := by
          show (decide (xs.length ≤ 2000) && (match xs.mapM prOf with
            | some ps => lnB ps
            | none => false)) = false
          rw [mapM_none hy (by simpa using e)]
          exact Bool.and_false _
        rw [this]
        rfl
      · have h2 : (xs.all fun y => (prOf y).isSome) = true := by simpa using h2
        obtain ⟨ps, e1, e2⟩ := mapM_some (List.all_eq_true.mp h2)
        have lb : lineB (.tuple xs) = lnB ps := by
          show (decide (xs.length ≤ 2000) && (match xs.mapM prOf with
            | some ps => lnB ps
            | none => false)) = _
          rw [e1, decide_eq_true (by omega)]
          exact Bool.true_and _
        rw [lb, e2]
        walk_at "wY1"
        refine ow_lcAll (ps.zip (ps.drop 1)) encPP (fun q => .bool (flB q.1 q.2)) ?_
        walk_at "wY1"
        refine ow_eq (slA_mk (.inr rfl)) ?_
        walk_at "wY1"
        refine ⟨zip_pp ps, fun q hq => ?_, ?_⟩
        · walk_at "wY1"
          refine ow_eq (follow_any q.1 q.2) ?_
          walk_at "wY1"
          rfl
        walk_at "wY1"
        refine ow_eq (x := PyData.bool (lnB ps)) (by
          have := all_map ((ps.zip (ps.drop 1)).map fun q => flB q.1 q.2)
          rw [List.map_map, List.all_map] at this
          exact this) ?_
        walk_at "wY1"
        cases hl : lnB ps with
        | true =>
          walk_at "wY1"
          rfl
        | false =>
          walk_at "wY1"
          rfl
theorem sw_ds {S : Type} {g : SF S} {ds ds0 : DS S} {N : DS S → Prop} {R : MO S → DS S → Prop} {B C : DS S → Prop} (e : ds = ds0) (k : SW g ds0 N R B C) : SW g ds N R B C := by subst e; exact k
def encWB (p : Str × Bool) : D := .tuple [.str p.1, .bool p.2]
theorem xw_notVR {S : Type} {ds : DS S} {f : XF S D} {X : D → DS S → Prop} (k : XW f ds fun x d => OW (truD x) fun t => X (.bool (!t)) d) : XW (xNotV f) ds X := by
  obtain ⟨x, d, e, t, e2, q⟩ := k
  exact ⟨_, d, by unfold xNotV; exact xb_ev e (xb_ev (xlift_ev e2) rfl), q⟩
def KA18 : List (Str × Bool) := [("ground", false), ("trader", false), ("day", false), ("name", false), ("pitch", false), ("deal", false), ("paper", false), ("line", false), ("rules", false), ("event", false), ("twice", false), ("many", false), ("mend", false), ("no event", false), ("no day", false), ("lineup", true), ("history", false), ("bare", false)]
def KA20 : List (Str × Bool) := KA18 ++ [(("bare" : Str), false)]
def KB18 : List (Str × Bool) := [("ground", false), ("trader", false), ("day", false), ("name", false), ("pitch", false), ("deal", false), ("paper", false), ("line", false), ("rules", true), ("event", false), ("twice", false), ("many", false), ("mend", false), ("no event", false), ("no day", false), ("lineup", false), ("history", false), ("bare", false)]
def KB20 : List (Str × Bool) := KB18 ++ [(("bare" : Str), false)]
theorem kinds_lineup : F_law_kinds ⟨"BadLineup", none⟩ [] = some (.lst [.str "lineup"], ⟨"BadLineup", none⟩) := by
  have : PW2 (F_law_kinds ⟨"BadLineup", none⟩ []) fun m s => m = .lst [.str "lineup"] ∧ s = ⟨"BadLineup", none⟩ := by
    unfold F_law_kinds g_law_kinds
    refine pw_runS [some (.st ⟨"BadLineup", none⟩), none, none, none] rfl ?_
    repeat (walk_at "wX1"; first | refine xw_isE (b := false) rfl (by decide +kernel) ?_ | refine xw_isE (b := true) rfl (by decide +kernel) ?_ | refine xw_notVR ?_ | refine ow_addL (by have sz : (1000 : Nat) ≤ sizeLine := (by decide); simp only [List.length_append, List.length_cons, List.length_nil]; omega) ?_)
    walk_at "wX1"
    refine xw_lcX KA20 encWB (fun n acc ds => acc = ((KA20.take n).filter (·.2)).map (fun p => .str p.1) ∧ ds = [some (.st (⟨"BadLineup", none⟩ : Exc)), some (.d (.list (KA18.map encWB))), none, none]) ?_
    repeat (walk_at "wX1"; first | refine xw_isE (b := false) rfl (by decide +kernel) ?_ | refine xw_isE (b := true) rfl (by decide +kernel) ?_ | refine xw_notVR ?_ | refine ow_addL (by have sz : (1000 : Nat) ≤ sizeLine := (by decide); simp only [List.length_append, List.length_cons, List.length_nil]; omega) ?_)
    walk_at "wX1"
    refine ⟨rfl, ⟨rfl, rfl⟩, ?_, ?_⟩
    · rintro n c hc acc ds ⟨rfl, rfl⟩
      walk_at "wX1"
      refine letw (ds0 := [some (.st (⟨"BadLineup", none⟩ : Exc)), some (.d (.list (KA18.map encWB))), some (.d (.str c.1)), some (.d (.bool c.2))]) rfl ?_
      walk_at "wX1"
      have tk : KA20.take (n + 1) = KA20.take n ++ [c] := by rw [List.take_succ, hc]; rfl
      refine ⟨fun hb => ?_, fun hb => ?_⟩
      · walk_at "wX1"
        refine letw rfl ?_
        exact ⟨by rw [tk, List.filter_append, List.map_append]; simp [hb], rfl⟩
      · refine letw rfl ?_
        exact ⟨by rw [tk, List.filter_append, List.map_append]; simp [hb], rfl⟩
    · rintro ys ds2 ⟨rfl, rfl⟩
      refine ow_eq rfl ⟨?_, rfl⟩
      rw [show (KA20.take KA20.length).filter (fun x => x.2) = [(("lineup" : Str), true)] from by decide +kernel]
      rfl
  obtain ⟨m, s, e, rfl, rfl⟩ := this
  exact e
theorem said_lineup : F_law_said (.error ⟨"BadLineup", none⟩) = some (.d (.str "lineup")) := by
  refine ow_get ?_
  unfold F_law_said
  refine ow_runD [some (.st mark), none, none] rfl ?_
  unfold g_law_said
  walk_at "wY1"
  refine sw_imp (sw_tryD_ex (Rt := fun m => m = .d (.str "lineup")) mark rfl ⟨by decide +kernel, by show 2 < 3; decide⟩ ?_) (fun _ h => False.elim h) (fun _ _ h => by subst h; exact ow_some rfl) (fun _ h => h) (fun _ h => h)
  refine sw_ds (ds0 := [none, some (.st (⟨"BadLineup", none⟩ : Exc)), none]) rfl ?_
  walk_at "wX1"
  refine xw_noneF rfl ?_
  walk_at "wX1"
  refine xw_callEL rfl kinds_lineup ?_
  walk_at "wX1"
  refine ow_eq (x := PyData.str "lineup") (by kernel_rfl) ?_
  exact ⟨rfl, rfl⟩
theorem kinds_rules : F_law_kinds ⟨"BadRules", none⟩ [] = some (.lst [.str "rules"], ⟨"BadRules", none⟩) := by
  have : PW2 (F_law_kinds ⟨"BadRules", none⟩ []) fun m s => m = .lst [.str "rules"] ∧ s = ⟨"BadRules", none⟩ := by
    unfold F_law_kinds g_law_kinds
    refine pw_runS [some (.st ⟨"BadRules", none⟩), none, none, none] rfl ?_
    repeat (walk_at "wX1"; first | refine xw_isE (b := false) rfl (by decide +kernel) ?_ | refine xw_isE (b := true) rfl (by decide +kernel) ?_ | refine xw_notVR ?_ | refine ow_addL (by have sz : (1000 : Nat) ≤ sizeLine := (by decide); simp only [List.length_append, List.length_cons, List.length_nil]; omega) ?_)
    walk_at "wX1"
    refine xw_lcX KB20 encWB (fun n acc ds => acc = ((KB20.take n).filter (·.2)).map (fun p => .str p.1) ∧ ds = [some (.st (⟨"BadRules", none⟩ : Exc)), some (.d (.list (KB18.map encWB))), none, none]) ?_
    repeat (walk_at "wX1"; first | refine xw_isE (b := false) rfl (by decide +kernel) ?_ | refine xw_isE (b := true) rfl (by decide +kernel) ?_ | refine xw_notVR ?_ | refine ow_addL (by have sz : (1000 : Nat) ≤ sizeLine := (by decide); simp only [List.length_append, List.length_cons, List.length_nil]; omega) ?_)
    walk_at "wX1"
    refine ⟨rfl, ⟨rfl, rfl⟩, ?_, ?_⟩
    · rintro n c hc acc ds ⟨rfl, rfl⟩
      walk_at "wX1"
      refine letw (ds0 := [some (.st (⟨"BadRules", none⟩ : Exc)), some (.d (.list (KB18.map encWB))), some (.d (.str c.1)), some (.d (.bool c.2))]) rfl ?_
      walk_at "wX1"
      have tk : KB20.take (n + 1) = KB20.take n ++ [c] := by rw [List.take_succ, hc]; rfl
      refine ⟨fun hb => ?_, fun hb => ?_⟩
      · walk_at "wX1"
        refine letw rfl ?_
        exact ⟨by rw [tk, List.filter_append, List.map_append]; simp [hb], rfl⟩
      · refine letw rfl ?_
        exact ⟨by rw [tk, List.filter_append, List.map_append]; simp [hb], rfl⟩
    · rintro ys ds2 ⟨rfl, rfl⟩
      refine ow_eq rfl ⟨?_, rfl⟩
      rw [show (KB20.take KB20.length).filter (fun x => x.2) = [(("rules" : Str), true)] from by decide +kernel]
      rfl
  obtain ⟨m, s, e, rfl, rfl⟩ := this
  exact e
theorem said_rules : F_law_said (.error ⟨"BadRules", none⟩) = some (.d (.str "rules")) := by
  refine ow_get ?_
  unfold F_law_said
  refine ow_runD [some (.st mark), none, none] rfl ?_
  unfold g_law_said
  walk_at "wY1"
  refine sw_imp (sw_tryD_ex (Rt := fun m => m = .d (.str "rules")) mark rfl ⟨by decide +kernel, by show 2 < 3; decide⟩ ?_) (fun _ h => False.elim h) (fun _ _ h => by subst h; exact ow_some rfl) (fun _ h => h) (fun _ h => h)
  refine sw_ds (ds0 := [none, some (.st (⟨"BadRules", none⟩ : Exc)), none]) rfl ?_
  walk_at "wX1"
  refine xw_noneF rfl ?_
  walk_at "wX1"
  refine xw_callEL rfl kinds_rules ?_
  walk_at "wX1"
  refine ow_eq (x := PyData.str "rules") (by kernel_rfl) ?_
  exact ⟨rfl, rfl⟩
theorem said_none (v : D) : F_law_said (.ok v) = some (.d (.str "")) := by
  refine ow_get ?_
  unfold F_law_said
  refine ow_runD [some (.st mark), none, none] rfl ?_
  unfold g_law_said
  walk_at "wY1"
  refine sw_imp (sw_tryD_ok (Rt := fun m => m = .d (.str "")) mark rfl ?_) (fun _ h => False.elim h) (fun _ _ h => by subst h; exact ow_some rfl) (fun _ h => h) (fun _ h => h)
  refine sw_ds (ds0 := [none, some (.d .none), none]) rfl ?_
  walk_at "wX1"
  refine xw_noneT rfl ?_
  walk_at "wX1"
  exact ⟨rfl, rfl⟩
def chk : Pr → List D → Bool
  | _, [] => true
  | a, y :: r => match prOf y with
    | some p => flB a p && chk p r
    | none => false
theorem chk_eq : ∀ (a : Pr) (xs : List D), chk a xs = match xs.mapM prOf with
    | some ps => lnB (a :: ps)
    | none => false
  | a, [] => rfl
  | a, y :: r => by
    unfold chk
    rw [List.mapM_cons]
    cases hp : prOf y with
    | none => rfl
    | some p =>
      dsimp only
      rw [chk_eq p r]
      cases hm : r.mapM prOf with
      | none => exact Bool.and_false _
      | some ps => rfl
theorem prOf_rng {y : D} {p : Pr} (h : prOf y = some p) : y = eP p ∧ 0 ≤ p.1 ∧ p.1 ≤ 9999 ∧ p.2 ∈ W5 := by
  unfold prOf at h
  split at h
  · split at h
    · cases h
      rename_i q
      exact ⟨rfl, q⟩
    · cases h
  · cases h
def tld : Pr := (-1, "told")
theorem fl_start {p : Pr} (h : 0 ≤ p.1) : flB tld p = true := by
  unfold flB tld
  rw [decide_eq_false (show ¬ (("told" : Str) = "struck") by decide +kernel), decide_eq_false (show ¬ p.1 < -1 by omega), decide_eq_true (show (-1 : Int) < p.1 by omega)]
  rfl
theorem lineB_chk (xs : List D) : lineB (.tuple xs) = (decide (xs.length ≤ 2000) && chk tld xs) := by
  show (decide (xs.length ≤ 2000) && _) = _
  rw [chk_eq]
  congr 1
  cases hm : xs.mapM prOf with
  | none => rfl
  | some ps =>
    dsimp only
    cases ps with
    | nil => rfl
    | cons p r =>
      have hp : 0 ≤ p.1 := by
        cases xs with
        | nil => cases hm
        | cons y t =>
          rw [List.mapM_cons] at hm
          cases hy : prOf y with
          | none => rw [hy] at hm; cases hm
          | some q =>
            rw [hy] at hm
            cases ht : t.mapM prOf with
            | none => rw [ht] at hm; cases hm
            | some qs => rw [ht] at hm; cases hm; exact (prOf_rng hy).2.1
      show lnB (p :: r) = ((flB tld p) && lnB (p :: r))
      rw [fl_start hp]
      rfl
theorem ninT (x : Str) (ys : List Str) : ninD (.str x) (.tuple (ys.map .str)) = some (.bool (!decide (x ∈ ys))) := by
  show (if min (PyData.depthAll (ys.map .str)) (PyData.depth (.str x)) ≤ 64 ∧ noD (.str x) = true ∧ noDAll (ys.map .str) = true then some (PyData.bool (!anyEq (.str x) (ys.map .str))) else none) = _
  rw [if_pos ⟨Nat.le_trans (Nat.min_le_left _ _) (Nat.le_trans (depth_strs ys) (by decide)), rfl, noD_strs _⟩, anyEq_strs]
theorem line_any {x : D} (h : nq 2 x = true) : F_law_is_line [x] = some (.d (.bool (lineB x))) := by
  refine ow_get ?_
  unfold F_law_is_line g_law_is_line
  refine ow_runP [some (.d x), none, none, none, none] rfl ?_
  walk_at "wY1"
  refine sw_if ?_
  walk_at "wY1"
  refine ow_eq (kT (nq_ty h)) ?_
  cases ht : (tyD x == "tuple") with
  | false =>
    walk_at "wY1"
    have : lineB x = false := by
      unfold lineB
      split
      · simp [tyD] at ht
      · rfl
    rw [this]
  | true =>
    obtain ⟨xs, rfl⟩ := ty_tup ht
    walk_at "wY1"
    refine ⟨fun h1 => ?_, fun h1 => ?_⟩
    · have h1 := of_decide_eq_true h1
      walk_at "wY1"
      have : lineB (.tuple xs) = false := by
        rw [lineB_chk, decide_eq_false (by omega)]
        rfl
      rw [this]
    · have h1 := of_decide_eq_false h1
      have lb : lineB (.tuple xs) = chk tld xs := by
        rw [lineB_chk, decide_eq_true (by omega)]
        rfl
      rw [lb]
      walk_at "wY1"
      refine fw_xs xs (List.map_id' xs).symm (fun n ds => ∃ a o2 o3 o4, chk tld xs = chk a (xs.drop n) ∧ ds = [some (.d (.tuple xs)), some (.d (eP a)), o2, o3, o4]) ⟨tld, none, none, none, rfl, rfl⟩ ?_ ?_
      · rintro n y hy ds ⟨a, o2, o3, o4, ck, rfl⟩
        obtain ⟨hn, hy2⟩ := List.getElem?_eq_some_iff.mp hy
        have hd : xs.drop n = y :: xs.drop (n + 1) := by rw [List.drop_eq_getElem_cons hn, hy2]
        have q1 : nq 1 y = true := nq_el h y (List.mem_of_getElem? hy)
        rw [hd] at ck
        have no : prOf y = none → chk tld xs = false := fun e => by
          rw [ck]; unfold chk; rw [e]
        have yes : ∀ p, prOf y = some p → chk tld xs = (flB a p && chk p (xs.drop (n + 1))) := fun p e => by
          rw [ck]
          show (match prOf y with
            | some p => flB a p && chk p (xs.drop (n + 1))
            | none => false) = _
          rw [e]
        clear ck hd
        walk_at "wY1"
        refine sw_if ?_
        walk_at "wY1"
        refine ow_eq (kT (nq_ty q1)) ?_
        cases ht : (tyD y == "tuple") with
        | false =>
          walk_at "wY1"
          rw [no (prOf_not ht)]
        | true =>
          obtain ⟨ys, rfl⟩ := ty_tup ht
          walk_at "wY1"
          clear ht
          match ys, q1 with
          | [], _ =>
            refine iw_ne (by decide) ?_
            walk_at "wY1"
            rw [no (prOf_len (by decide))]
          | [b], _ =>
            refine iw_ne (by simp) ?_
            walk_at "wY1"
            rw [no (prOf_len (by simp))]
          | b :: c :: d :: r, _ =>
            refine iw_ne (by simp) ?_
            walk_at "wY1"
            rw [no (prOf_len (by simp))]
          | [b, c], q1 =>
            refine iw_f rfl ?_
            walk_at "wY1"
            refine ow_eq (kS (nq_ty (nq_el q1 c (.tail _ (.head _))))) ?_
            have pp := prOf_pair b c
            cases hs : (tyD c == "str") with
            | false =>
              walk_at "wY1"
              rw [wordB_no fun w e => by subst e; simp [tyD] at hs, Bool.and_false] at pp
              rw [no (Option.isSome_eq_false_iff.mp pp |> Option.isNone_iff_eq_none.mp)]
            | true =>
              obtain ⟨w, rfl⟩ := ty_str hs
              clear hs
              walk_at "wY1"
              have qb : tyD b ≠ "?" := nq_ty (nq_el q1 b (.head _))
              have pw : wholeB b 0 9999 = false → prOf (.tuple [b, .str w]) = none := fun e => by
                rw [e, Bool.false_and] at pp
                cases h : prOf (.tuple [b, .str w]) with
                | none => rfl
                | some p => rw [h] at pp; cases pp
              refine sw_if ?_
              walk_at "wY1"
              refine ow_eq (kB qb) ?_
              cases h2 : (tyD b == "bool") with
              | true =>
                walk_at "wY1"
                rw [no (pw (wholeB_no fun i e => by subst e; simp [tyD] at h2))]
              | false =>
                walk_at "wY1"
                refine ow_eq (kI qb) ?_
                cases h3 : (tyD b == "int" || tyD b == "bool") with
                | false =>
                  walk_at "wY1"
                  rw [no (pw (wholeB_no fun i e => by subst e; simp [tyD] at h3))]
                | true =>
                  obtain ⟨d, rfl⟩ := ty_int h3 h2
                  clear h2 h3
                  walk_at "wY1"
                  have wr : ¬ (0 ≤ d ∧ d ≤ 9999) → chk tld xs = false := fun z => no (pw (by
                    show (decide (0 ≤ d) && decide (d ≤ 9999)) = false
                    cases y1 : decide (0 ≤ d) with
                    | false => rfl
                    | true =>
                      cases y2 : decide (d ≤ 9999) with
                      | false => rfl
                      | true => exact absurd ⟨of_decide_eq_true y1, of_decide_eq_true y2⟩ z))
                  refine ⟨fun c1 => ?_, fun c1 => ?_⟩
                  rotate_left
                  · have c1 := of_decide_eq_false c1
                    walk_at "wY1"
                    rw [wr (by omega)]
                  have c1 := of_decide_eq_true c1
                  walk_at "wY1"
                  refine ⟨fun c2 => ?_, fun c2 => ?_⟩
                  · have c2 : ¬ d ≤ 9999 := by simpa using c2
                    walk_at "wY1"
                    rw [wr (by omega)]
                  have c2 : d ≤ 9999 := by simpa using c2
                  walk_at "wY1"
                  refine sw_if ?_
                  walk_at "wY1"
                  refine ow_eq (ninT w W5) ?_
                  walk_at "wY1"
                  refine ⟨fun c3 => ?_, fun c3 => ?_⟩
                  · have c3 : w ∉ W5 := by simpa using c3
                    walk_at "wY1"
                    rw [no (show (if 0 ≤ d ∧ d ≤ 9999 ∧ w ∈ W5 then some (d, w) else none) = none from if_neg fun z => c3 z.2.2)]
                  have c3 : w ∈ W5 := by simpa using c3
                  have c4 := yes (d, w) (show (if 0 ≤ d ∧ d ≤ 9999 ∧ w ∈ W5 then some (d, w) else none) = _ from if_pos ⟨c1, c2, c3⟩)
                  clear no yes pw wr pp
                  have bad : flB a (d, w) = false → chk tld xs = false := fun z => by rw [c4, z]; rfl
                  have good : flB a (d, w) = true → chk tld xs = chk (d, w) (xs.drop (n + 1)) := fun z => by rw [c4, z]; rfl
                  walk_at "wY1"
                  refine ⟨fun c5 => ?_, fun c5 => ?_⟩
                  · walk_at "wY1"
                    rw [bad (by simp [flB, of_decide_eq_true c5])]
                  have c5 := of_decide_eq_false c5
                  walk_at "wY1"
                  refine ⟨fun c6 => ?_, fun c6 => ?_⟩
                  · walk_at "wY1"
                    rw [bad (by simp [flB, of_decide_eq_true c6])]
                  have c6 := of_decide_eq_false c6
                  walk_at "wY1"
                  refine sw_if ?_
                  walk_at "wY1"
                  refine ⟨fun c7 => ?_, fun c7 => ?_⟩
                  · have c7 := of_decide_eq_true c7
                    walk_at "wY1"
                    refine ⟨fun c8 => ?_, fun c8 => ?_⟩
                    · have c8 : ¬ a.2 = "given" := by simpa using c8
                      walk_at "wY1"
                      rw [bad (by simp [flB, c7, c8])]
                    have c8 : a.2 = "given" := by simpa using c8
                    walk_at "wY1"
                    refine ⟨fun c9 => ?_, fun c9 => ?_⟩
                    · walk_at "wY1"
                      rw [bad (by simp [flB, c7, of_decide_eq_true c9])]
                    have c9 := of_decide_eq_false c9
                    walk_at "wY1"
                    exact ⟨(d, w), _, _, _, good (by simp [flB, c5, c6, c8, c9]; decide +kernel), rfl⟩
                  · have c7 := of_decide_eq_false c7
                    walk_at "wY1"
                    exact ⟨(d, w), _, _, _, good (by have : a.1 < d := (by omega); simp [flB, c5, c6, this]), rfl⟩
      · rintro ds ⟨a, o2, o3, o4, ck, rfl⟩
        walk_at "wY1"
        rw [ck, List.drop_length]
        rfl
structure Lf (x : D) : Prop where
  ty : tyD x ≠ "?"
  nt : ∀ xs, x ≠ .tuple xs
  de : noDE x = true
  sh : x.showable = true
  dp : x.depth ≤ 1
  ln : x.shown.length ≤ 40
  ok : PyData.strOk x.shown = true
def tr (b : Nat) : Nat → D → Prop
  | 0, x => Lf x
  | d + 1, x => Lf x ∨ ∃ xs, (x = .tuple xs ∨ x = .list xs) ∧ xs.length ≤ b ∧ ∀ y ∈ xs, tr b d y
theorem tr_lf {b d : Nat} {x : D} (h : Lf x) : tr b d x := by
  cases d with
  | zero => exact h
  | succ d => exact .inl h
theorem tr_tup {b d : Nat} {xs : List D} (l : xs.length ≤ b) (h : ∀ y ∈ xs, tr b d y) : tr b (d + 1) (.tuple xs) := .inr ⟨xs, .inl rfl, l, h⟩
theorem tr_lst {b d : Nat} {xs : List D} (l : xs.length ≤ b) (h : ∀ y ∈ xs, tr b d y) : tr b (d + 1) (.list xs) := .inr ⟨xs, .inr rfl, l, h⟩
theorem tr_up {b b' : Nat} (hb : b ≤ b') : ∀ {d d' : Nat} {x : D}, tr b d x → d ≤ d' → tr b' d' x
  | 0, d', x, h, _ => tr_lf h
  | d + 1, 0, x, h, l => absurd l (by omega)
  | d + 1, d' + 1, x, h, l => by
    rcases h with h | ⟨xs, e, n, h⟩
    · exact .inl h
    · exact .inr ⟨xs, e, Nat.le_trans n hb, fun y hy => tr_up hb (h y hy) (by omega)⟩
theorem tr_parts {b d : Nat} {xs : List D} (h : tr b (d + 1) (.tuple xs)) : xs.length ≤ b ∧ ∀ y ∈ xs, tr b d y := by
  rcases h with h | ⟨ys, e, n, h⟩
  · exact absurd rfl (h.nt xs)
  · rcases e with e | e
    · cases e; exact ⟨n, h⟩
    · cases e
theorem tr_not0 {b : Nat} {xs : List D} (h : tr b 0 (.tuple xs)) : False := absurd rfl (Lf.nt h xs)
def wd (b : Nat) : Nat → Nat
  | 0 => 40
  | d + 1 => b * (wd b d + 2) + 40
structure Shw (k w : Nat) (x : D) : Prop where
  ty : tyD x ≠ "?"
  de : noDE x = true
  sh : x.showable = true
  dp : x.depth ≤ k
  ln : x.shown.length ≤ w
  ok : PyData.strOk x.shown = true
theorem shw_all {k w : Nat} : ∀ {xs : List D}, (∀ y ∈ xs, Shw k w y) → noDEAll xs = true ∧ PyData.showableAll xs = true ∧ PyData.depthAll xs ≤ k ∧ ((PyData.shownAll xs).map (·.length)).sum ≤ xs.length * w ∧ (PyData.shownAll xs).length = xs.length ∧ ∀ t ∈ PyData.shownAll xs, PyData.strOk t = true
  | [], _ => ⟨rfl, rfl, Nat.zero_le _, Nat.zero_le _, rfl, nofun⟩
  | x :: r, h => by
    obtain ⟨h1, h2, h3, h4, h5, h6⟩ := shw_all fun z hz => h z (List.mem_cons_of_mem _ hz)
    have hx := h x (by simp)
    refine ⟨?_, ?_, ?_, ?_, ?_, ?_⟩
    · show (noDE x && noDEAll r) = true
      rw [hx.de, h1]; rfl
    · show (x.showable && PyData.showableAll r) = true
      rw [hx.sh, h2]; rfl
    · simp only [PyData.depthAll]
      have := hx.dp
      omega
    · show x.shown.length + ((PyData.shownAll r).map (·.length)).sum ≤ (r.length + 1) * w
      have := hx.ln
      rw [Nat.add_mul]
      omega
    · show (PyData.shownAll r).length + 1 = r.length + 1
      rw [h5]
    · intro t ht
      rcases List.mem_cons.mp (show t ∈ x.shown :: PyData.shownAll r from ht) with z | z
      · rw [z]; exact hx.ok
      · exact h6 t z
theorem shw_tup {k w b : Nat} {xs : List D} (h : ∀ y ∈ xs, Shw k w y) (l : xs.length ≤ b) : Shw (k + 1) (b * (w + 2) + 40) (.tuple xs) := by
  obtain ⟨h1, h2, h3, h4, h5, h6⟩ := shw_all h
  have m : xs.length * w ≤ b * w := Nat.mul_le_mul_right _ l
  refine ⟨by simp [tyD], by unfold noDE; exact h1, by simp only [PyData.showable]; exact h2, by simp only [PyData.depth]; omega, ?_, ?_⟩
  · simp only [PyData.shown]
    have := tupleText_len_le (PyData.shownAll xs)
    rw [h5] at this
    rw [Nat.mul_add]
    omega
  · simp only [PyData.shown]
    exact app_ok (app_ok (ok_of _) (ok_join _ (ok_of _) _ h6)) (ok_of _)
theorem shw_lst {k w b : Nat} {xs : List D} (h : ∀ y ∈ xs, Shw k w y) (l : xs.length ≤ b) : Shw (k + 1) (b * (w + 2) + 40) (.list xs) := by
  obtain ⟨h1, h2, h3, h4, h5, h6⟩ := shw_all h
  have m : xs.length * w ≤ b * w := Nat.mul_le_mul_right _ l
  refine ⟨by simp [tyD], by unfold noDE; exact h1, by simp only [PyData.showable]; exact h2, by simp only [PyData.depth]; omega, ?_, ?_⟩
  · simp only [PyData.shown]
    have := listText_len_le (PyData.shownAll xs)
    rw [h5] at this
    rw [Nat.mul_add]
    omega
  · simp only [PyData.shown]
    exact app_ok (ok_from _ _ _ (ok_of _) h6) (ok_of _)
theorem tr_shw {b : Nat} : ∀ {d : Nat} {x : D}, tr b d x → Shw (d + 1) (wd b d) x
  | 0, x, h => ⟨h.ty, h.de, h.sh, h.dp, h.ln, h.ok⟩
  | d + 1, x, h => by
    rcases h with h | ⟨xs, e, n, h⟩
    · exact ⟨h.ty, h.de, h.sh, Nat.le_trans h.dp (by omega), Nat.le_trans h.ln (by unfold wd; omega), h.ok⟩
    · rcases e with rfl | rfl
      · exact shw_tup (fun y hy => tr_shw (h y hy)) n
      · exact shw_lst (fun y hy => tr_shw (h y hy)) n
theorem tr_repr {x : D} (h : tr 14 4 x) : reprE [x] = some (.str x.shown) := by
  have s := tr_shw h
  have l : wd 14 4 ≤ sizeLine := by decide
  simp only [reprE]
  rw [if_pos ⟨s.sh, Nat.le_trans s.dp (by decide), Nat.le_trans s.ln l, s.ok, s.de⟩]
theorem tr_nq {b : Nat} : ∀ {n d : Nat} {x : D}, tr b d x → nq n x = true
  | 0, d, x, h => by
    unfold nq
    exact decide_eq_true (tr_shw h).ty
  | n + 1, d, x, h => by
    unfold nq
    rw [decide_eq_true (tr_shw h).ty, Bool.true_and]
    split
    · rename_i xs
      cases d with
      | zero => exact (tr_not0 h).elim
      | succ d => exact List.all_eq_true.mpr fun y hy => tr_nq ((tr_parts h).2 y hy)
    · rfl
theorem lf_int {i : Int} (h : i.natAbs < 10 ^ 19) : Lf (.int i) := by
  have n := nc_int h
  refine ⟨by simp [tyD], nofun, rfl, n.ok, by show 0 ≤ 1; decide, ?_, ok_shown _ n.lay⟩
  have : (PyData.int i).intsShort 20 = true := n.sh
  have : decide ((Str.ofString (toString i)).length ≤ 20) = true := this
  have := of_decide_eq_true this
  show (Str.ofString (toString i)).length ≤ 40
  omega
def odds : List D := [.none, .bool true, .bool false, .int 0, .int 5, .int (-1), .int 9999, .int 10000, .int (10 ^ 30), .str "came", .str "told", .str "missed", .str "given", .str "struck", .str "home", .str "", .str "earned", .str "Came", .str "came ", .str "5", .tuple [], .list [], .dict [], .tuple [.int 5, .str "came"], .list [.int 5, .str "came"], .tuple [.int 5], .tuple [.str "came", .int 5]]
theorem lf_str {x : Str} (h1 : PyData.strOk (reprText x) = true) (h2 : (reprText x).length ≤ 40) : Lf (.str x) := ⟨by simp [tyD], nofun, rfl, rfl, Nat.zero_le _, h2, h1⟩
theorem lf_word {w : Str} (h : w ∈ (["came", "told", "missed", "given", "struck", "home", "", "earned", "Came", "came ", "5"] : List Str)) : Lf (.str w) := by
  have : ∀ w ∈ (["came", "told", "missed", "given", "struck", "home", "", "earned", "Came", "came ", "5"] : List Str), PyData.strOk (reprText w) = true ∧ (reprText w).length ≤ 40 := by decide +kernel
  exact lf_str (this w h).1 (this w h).2
theorem lf_w {w : Str} (h : w ∈ (["came", "told", "missed", "given", "struck", "home", "", "earned", "Came", "came ", "5"] : List Str) := by decide +kernel) : Lf (.str w) := lf_word h
theorem odd_tr : ∀ y ∈ odds, tr 2 1 y := by
  intro y hy
  have fi : ∀ {i : Int}, i.natAbs < 10 ^ 19 → tr 2 0 (.int i) := fun h => lf_int h
  have t0 : ∀ x : D, x = .none ∨ x = .bool true ∨ x = .bool false ∨ x = .dict [] ∨ x = .int (10 ^ 30) → Lf x := by
    rintro x (rfl | rfl | rfl | rfl | rfl) <;> exact ⟨by simp [tyD], nofun, by decide +kernel, by decide +kernel, by decide +kernel, by decide +kernel, by decide +kernel⟩
  unfold odds at hy
  simp only [List.mem_cons, List.mem_nil_iff, or_false] at hy
  rcases hy with rfl | rfl | rfl | rfl | rfl | rfl | rfl | rfl | rfl | rfl | rfl | rfl | rfl | rfl | rfl | rfl | rfl | rfl | rfl | rfl | rfl | rfl | rfl | rfl | rfl | rfl | rfl
  · exact tr_lf (t0 _ (by simp))
  · exact tr_lf (t0 _ (by simp))
  · exact tr_lf (t0 _ (by simp))
  · exact tr_lf (lf_int (by decide))
  · exact tr_lf (lf_int (by decide))
  · exact tr_lf (lf_int (by decide))
  · exact tr_lf (lf_int (by decide))
  · exact tr_lf (lf_int (by decide))
  · exact tr_lf (t0 _ (by simp))
  · exact tr_lf lf_w
  · exact tr_lf lf_w
  · exact tr_lf lf_w
  · exact tr_lf lf_w
  · exact tr_lf lf_w
  · exact tr_lf lf_w
  · exact tr_lf lf_w
  · exact tr_lf lf_w
  · exact tr_lf lf_w
  · exact tr_lf lf_w
  · exact tr_lf lf_w
  · exact tr_tup (by decide) nofun
  · exact tr_lst (by decide) nofun
  · exact tr_lf (t0 _ (by simp))
  · refine tr_tup (by decide) ?_
    simp only [List.mem_cons, List.mem_nil_iff, or_false]
    rintro y (rfl | rfl)
    · exact lf_int (by decide)
    · exact lf_w
  · refine tr_lst (by decide) ?_
    simp only [List.mem_cons, List.mem_nil_iff, or_false]
    rintro y (rfl | rfl)
    · exact lf_int (by decide)
    · exact lf_w
  · refine tr_tup (by decide) ?_
    simp only [List.mem_cons, List.mem_nil_iff, or_false]
    rintro y rfl
    exact lf_int (by decide)
  · refine tr_tup (by decide) ?_
    simp only [List.mem_cons, List.mem_nil_iff, or_false]
    rintro y (rfl | rfl)
    · exact lf_w
    · exact lf_int (by decide)
theorem w_odd {B : Nat} {s : List (Key × D)} {Q : MO St2 → List (Key × D) → Prop} (w : SK (B + 1) s) (q : ∀ x s', tr 2 1 x → SK B s' → Q (.d x) s') : PW2 (F_law_odd s []) Q := by
  unfold F_law_odd g_law_odd
  refine pw_runV [some (.dic s), none] rfl ?_
  walk_at "wY1"
  refine ow_eq (x := PyData.int (10 ^ 30)) (by kernel_rfl) ?_
  walk_at "wY1"
  refine ow_eq (x := PyData.list odds) rfl ?_
  walk_at "wY1"
  refine w_next w (by decide) (by decide) fun r s1 a1 b1 w => ?_
  obtain ⟨j, rfl⟩ := Int.eq_ofNat_of_zero_le a1
  walk_at "wY1"
  have hj : j < odds.length := by
    have : odds.length = 27 := rfl
    have : (j : Int) < 27 := b1
    omega
  refine ow_eq (x := odds[j]) (ixL_nat (List.getElem?_eq_getElem hj)) ?_
  walk_at "wY1"
  exact q _ _ (odd_tr _ (List.getElem_mem hj)) w
def wds : List Str := ["came", "told", "missed", "given", "came", "struck"]
theorem wds_in : ∀ w ∈ wds, w ∈ (["came", "told", "missed", "given", "struck", "home", "", "earned", "Came", "came ", "5"] : List Str) := by decide +kernel
theorem step5 {r : Int} (h0 : 0 ≤ r) (h1 : r < 5) : ∃ y : Int, ixD (.list [.int 1, .int 0, .int 1, .int 2, .int 700]) (.int r) = some (.int y) ∧ 0 ≤ y ∧ y ≤ 700 := by
  have : r = 0 ∨ r = 1 ∨ r = 2 ∨ r = 3 ∨ r = 4 := by omega
  rcases this with rfl | rfl | rfl | rfl | rfl <;> exact ⟨_, rfl, by decide, by decide⟩
theorem nla : ∀ {xs : List D}, (∀ y ∈ xs, noList y = true) → noListAll xs = true
  | [], _ => rfl
  | x :: r, h => by
    show (noList x && noListAll r) = true
    rw [h x (.head _), nla fun y hy => h y (.tail _ hy)]
    rfl
theorem w_lineT {B n : Nat} {s : List (Key × D)} {Q : MO St2 → List (Key × D) → Prop} (w : SK (B + 60) s) (hn : n ≤ 12) (q : ∀ x s', tr 12 2 x → SK B s' → Q (.d x) s') : PW2 (F_law_line s [.int (n : Nat)]) Q := by
  unfold F_law_line g_law_line
  refine pw_runV [some (.dic s), some (.d (.int (n : Nat))), none, none, none] rfl ?_
  walk_at "wY1"
  refine w_next (b := B + 40) (w.mono (by omega)) (by decide) (by decide) fun r s1 a1 b1 w => ?_
  walk_at "wY1"
  refine ow_rng1 (by omega) ?_
  walk_at "wY1"
  refine fw_xs (List.range n) rfl (fun k ds => ∃ (s : List (Key × D)) (es : List D) (day : Int) (o4 : Option (MO St2)), SK (B + 2 * (n - k)) s ∧ es.length = k ∧ (∀ y ∈ es, tr 12 1 y ∧ noList y = true) ∧ 0 ≤ day ∧ day ≤ 9 + 700 * k ∧ ds = [some (.dic s), some (.d (.int (n : Nat))), some (.lst es), some (.d (.int day)), o4]) ⟨_, [], r, none, w.mono (by omega), rfl, nofun, a1, by omega, rfl⟩ ?_ ?_
  · rintro k j hk ds ⟨s2, es, day, o4, w, l, g, d0, d1, rfl⟩
    obtain ⟨hk2, _⟩ := List.getElem?_eq_some_iff.mp hk
    rw [List.length_range] at hk2
    have w : SK (B + 2 * (n - (k + 1)) + 2) s2 := w.mono (by omega)
    walk_at "wY1"
    refine w_next w (by decide) (by decide) fun r1 s3 a1 b1 w => ?_
    obtain ⟨i, rfl⟩ := Int.eq_ofNat_of_zero_le a1
    have hi : i < wds.length := by
      have : wds.length = 6 := rfl
      have : (i : Int) < 6 := b1
      omega
    walk_at "wY1"
    refine ow_eq (x := .str wds[i]) (show ixD (.list (wds.map .str)) (.int (i : Int)) = _ from ixL_nat (by rw [List.getElem?_map, List.getElem?_eq_getElem hi]; rfl)) ?_
    walk_at "wY1"
    refine ow_app (by have : (1000000 : Nat) ≤ sizeLine := (by decide); omega) ?_
    walk_at "wY1"
    refine w_next w (by decide) (by decide) fun r2 s4 a2 b2 w => ?_
    obtain ⟨y, ey, y0, y1⟩ := step5 a2 b2
    walk_at "wY1"
    refine ow_eq ey ?_
    walk_at "wY1"
    refine ⟨s4, _, _, _, w, by rw [List.length_append, l]; rfl, fun z hz => ?_, by omega, by omega, rfl⟩
    rcases List.mem_append.mp hz with z1 | z1
    · exact g z z1
    · rw [List.mem_singleton.mp z1]
      refine ⟨?_, rfl⟩
      refine tr_tup (by show 2 ≤ 12; decide) ?_
      simp only [List.mem_cons, List.mem_nil_iff, or_false]
      rintro u (rfl | rfl)
      · exact lf_int (by omega)
      · exact lf_word (wds_in _ (List.getElem_mem hi))
  · rintro ds ⟨s2, es, day, o4, w, l, g, d0, d1, rfl⟩
    rw [List.length_range] at l
    walk_at "wY1"
    refine aw_mk (show noListAll es = true from nla fun y hy => (g y hy).2) ?_
    walk_at "wY1"
    exact q _ _ (tr_tup (by omega) fun y hy => (g y hy).1) (w.mono (by omega))
theorem cutTk {xs : List D} {j : Nat} : DL.cutD xs none (some (j : Int)) = xs.take j := by
  unfold DL.cutD
  rw [HT.sIx_nat, HT.sIx_none, List.drop_zero]
  by_cases h : j ≤ xs.length
  · rw [show min j xs.length - 0 = j by omega]
  · rw [show min j xs.length - 0 = xs.length by omega, List.take_of_length_le (Nat.le_refl _), List.take_of_length_le (by omega)]
theorem slTk {xs : List D} {j : Nat} : slA (.tuple xs) none (some (j : Int)) = some (.tuple (xs.take j)) := by
  rw [slA_mk (.inr rfl), cutTk]
theorem slDr {xs : List D} {j : Nat} : slA (.tuple xs) (some (j : Int)) none = some (.tuple (xs.drop j)) := by
  rw [slA_mk (.inr rfl), cut_from]
theorem slLast {xs : List D} : slA (.tuple xs) (some (-1)) none = some (.tuple (lastN 1 xs)) := by
  rw [slA_mk (.inr rfl)]
  exact congrArg (fun z => some (PyData.tuple z)) (cut_neg (m := 1) (by decide))
theorem addT {xs ys : List D} (h : xs.length + ys.length ≤ 1000) : addA (.tuple xs) (.tuple ys) = some (.tuple (xs ++ ys)) := by
  show (if xs.length + ys.length ≤ sizeLine then some (PyData.tuple (xs ++ ys)) else none) = _
  rw [if_pos (by have : (1000 : Nat) ≤ sizeLine := (by decide); omega)]
theorem sw_cut {S : Type} {u : SF S} {ds : DS S} {N : DS S → Prop} {R : MO S → DS S → Prop} {B C : DS S → Prop} (N' : DS S → Prop) (h : SW u ds N' R B C) (k : ∀ d, N' d → N d) : SW u ds N R B C := sw_imp h k (fun _ _ h => h) (fun _ h => h) fun _ h => h
theorem w_bent {b : Nat} (hb : 2 ≤ b) (hb2 : b ≤ 100) : ∀ (n d : Nat) {B : Nat} {s : List (Key × D)} {x : D} {Q : MO St2 → List (Key × D) → Prop}, d < n → SK (B + 4 * n) s → tr b d x → (∀ y s', tr (b + 1) (d + 1) y → SK B s' → Q (.d y) s') → PW2 (FR_law_bent n s [x]) Q := by
  intro n
  induction n with
  | zero => intro d B s x Q h; omega
  | succ n ih =>
    intro d B s x Q hd w t q
    show PW2 (runV 5 (g_law_bent (FR_law_bent n)) s [x]) Q
    unfold g_law_bent
    refine pw_runV [some (.dic s), some (.d x), none, none, none] rfl ?_
    walk_at "wY1"
    refine w_next (b := B + 4 * n + 3) (w.mono (by omega)) (by decide) (by decide) fun way s1 a1 b1 w => ?_
    walk_at "wY1"
    have odd : ∀ (B : Nat) {s : List (Key × D)} {Q : MO St2 → List (Key × D) → Prop}, SK (B + 1) s → (∀ y s', tr (b + 1) (d + 1) y → SK B s' → Q (.d y) s') → PW2 (F_law_odd s []) Q := fun B s Q w q => w_odd w fun y s' ty w => q y s' (tr_up (by omega) ty (by omega)) w
    cases ht : (tyD x == "tuple") with
    | false =>
      refine sw_if ?_
      walk_at "wY1"
      refine ow_eq (kT (tr_shw t).ty) ?_
      rw [ht]
      walk_at "wY1"
      refine odd (B + 4 * n + 2) w fun y s2 ty w => ?_
      walk_at "wY1"
      exact q y s2 ty (w.mono (by omega))
    | true =>
      obtain ⟨xs, rfl⟩ := ty_tup ht
      clear ht
      refine sw_cut (fun ds => ds = [some (.dic s1), some (.d (.tuple xs)), some (.d (.int way)), none, none]) ?_ ?_
      · refine sw_if ?_
        walk_at "wY1"
        refine ow_eq (show kitB (tyD (PyData.tuple xs)) "tuple" = some true from (by decide +kernel : kitB "tuple" "tuple" = some true)) ?_
        walk_at "wY1"
        refine ⟨fun _ => ?_, fun _ => ?_⟩
        · walk_at "wY1"
          refine odd (B + 4 * n + 2) w fun y s2 ty w => ?_
          walk_at "wY1"
          exact q y s2 ty (w.mono (by omega))
        · walk_at "wY1"
          rfl
      rintro ds rfl
      cases d with
      | zero => exact (tr_not0 t).elim
      | succ d =>
        obtain ⟨len, parts⟩ := tr_parts t
        have up : ∀ y ∈ xs, tr (b + 1) (d + 1) y := fun y hy => tr_up (by omega) (parts y hy) (by omega)
        walk_at "wY1"
        refine sw_cut (fun ds => ds = [some (.dic s1), some (.d (.tuple xs)), some (.d (.int way)), none, none]) ?_ ?_
        · refine sw_if ?_
          walk_at "wY1"
          refine ow_eq (x := PyData.bool (!xs.isEmpty)) rfl ?_
          walk_at "wY1"
          refine ⟨fun hz => ?_, fun _ => ?_⟩
          rotate_left
          · walk_at "wY1"
            rfl
          have hl : 0 < xs.length := by
            cases xs with
            | nil => cases hz
            | cons a r => rw [List.length_cons]; omega
          walk_at "wY1"
          refine ⟨fun _ => ?_, fun _ => ?_⟩
          rotate_left
          · walk_at "wY1"
            rfl
          walk_at "wY1"
          refine w_next (b := B + 4 * n + 2) w (by omega) (by omega) fun at_ s2 a2 b2 w => ?_
          obtain ⟨j, rfl⟩ := Int.eq_ofNat_of_zero_le a2
          have hj : j < xs.length := by omega
          walk_at "wY1"
          refine ow_eq slTk ?_
          walk_at "wY1"
          refine ow_eq (ixT_nat (List.getElem?_eq_getElem hj)) ?_
          walk_at "wY1"
          refine ih d (B := B) (by omega) (w.mono (by omega)) (parts _ (List.getElem_mem hj)) fun y s3 ty w => ?_
          walk_at "wY1"
          refine ow_eq (addT (by rw [List.length_take]; simp; omega)) ?_
          walk_at "wY1"
          refine ow_eq (show slA (.tuple xs) (some ((j : Int) + 1)) none = _ from slDr (j := j + 1)) ?_
          refine ow_eq (addT (by simp only [List.length_append, List.length_take, List.length_drop, List.length_cons, List.length_nil]; omega)) ?_
          walk_at "wY1"
          refine q _ _ (tr_tup (by simp only [List.length_append, List.length_take, List.length_drop, List.length_cons, List.length_nil]; omega) fun z hz => ?_) w
          rcases List.mem_append.mp hz with z1 | z1
          · rcases List.mem_append.mp z1 with z2 | z2
            · exact up z (List.mem_of_mem_take z2)
            · rw [List.mem_singleton.mp z2]; exact ty
          · exact up z (List.mem_of_mem_drop z1)
        rintro ds rfl
        walk_at "wY1"
        refine w_next (b := B + 4 * n + 2) w (by omega) (by omega) fun at_ s2 a2 b2 w => ?_
        obtain ⟨j, rfl⟩ := Int.eq_ofNat_of_zero_le a2
        walk_at "wY1"
        refine ow_eq slTk ?_
        walk_at "wY1"
        refine ow_eq (show slA (.tuple xs) (some ((j : Int) + 1)) none = _ from slDr (j := j + 1)) ?_
        refine ow_eq (addT (by simp only [List.length_take, List.length_drop]; omega)) ?_
        walk_at "wY1"
        refine ow_eq slLast ?_
        refine ow_eq (addT (by have : (lastN 1 xs).length ≤ 1 := (by unfold lastN; rw [List.length_drop]; omega); omega)) ?_
        walk_at "wY1"
        refine ow_eq (x := PyData.tuple xs.reverse) rfl ?_
        walk_at "wY1"
        refine w_odd (B := B + 4 * n + 1) w fun y s3 ty w => ?_
        have ty : tr (b + 1) (d + 1) y := tr_up (by omega) ty (by omega)
        walk_at "wY1"
        refine ow_eq (addT (by simp; omega)) ?_
        walk_at "wY1"
        refine w_next (b := B + 4 * n) w (by decide) (by decide) fun r s4 a4 b4 w => ?_
        walk_at "wY1"
        have w := w.mono (a := B) (by omega)
        have h5 : r = 0 ∨ r = 1 ∨ r = 2 ∨ r = 3 ∨ r = 4 := by omega
        rcases h5 with rfl | rfl | rfl | rfl | rfl
        · refine ow_eq rfl ?_
          walk_at "wY1"
          exact q _ _ (tr_lst (by omega) up) w
        · refine ow_eq rfl ?_
          walk_at "wY1"
          refine q _ _ (tr_tup (by simp only [List.length_append, List.length_take, List.length_drop]; omega) fun z hz => ?_) w
          rcases List.mem_append.mp hz with z1 | z1
          · exact up z (List.mem_of_mem_take z1)
          · exact up z (List.mem_of_mem_drop z1)
        · refine ow_eq rfl ?_
          walk_at "wY1"
          refine q _ _ (tr_tup (by have : (lastN 1 xs).length ≤ 1 := (by unfold lastN; rw [List.length_drop]; omega); rw [List.length_append]; omega) fun z hz => ?_) w
          rcases List.mem_append.mp hz with z1 | z1
          · exact up z z1
          · exact up z (List.mem_of_mem_drop z1)
        · refine ow_eq rfl ?_
          walk_at "wY1"
          exact q _ _ (tr_tup (by rw [List.length_reverse]; omega) fun z hz => up z (List.mem_reverse.mp hz)) w
        · refine ow_eq rfl ?_
          walk_at "wY1"
          refine q _ _ (tr_tup (by rw [List.length_append]; show _ + 1 ≤ _; omega) fun z hz => ?_) w
          rcases List.mem_append.mp hz with z1 | z1
          · exact up z z1
          · rw [List.mem_singleton.mp z1]; exact ty
def t1110 : D := .tuple [.int 1, .int 1, .int 1, .int 0]
def t2110 : D := .tuple [.int 2, .int 1, .int 1, .int 0]
theorem rules_no : FX_need_rules [t2110] = some (.error ⟨"BadRules", none⟩) := by kernel_rfl
theorem rules_yes : FX_need_rules [t1110] = some (.ok (.d .none)) := needRules_ok (r := ⟨1, 1, 1, 0⟩) ⟨by decide, by decide, by decide, by decide, by decide, by decide, by decide⟩
theorem line_no {x : D} (h : nq 2 x = true) (hb : lineB x = false) : FX_need_line [x] = some (.error ⟨"BadLineup", none⟩) := by rw [needLine_any h, hb]; rfl
theorem line_yes {x : D} (h : nq 2 x = true) (hb : lineB x = true) : FX_need_line [x] = some (.ok (.d .none)) := by rw [needLine_any h, hb]; rfl
theorem rows_line {x : D} (h : nq 2 x = true) (hb : lineB x = false) : FX_rows_by [t1110, x] = some (.error ⟨"BadLineup", none⟩) := by
  refine ow_get ?_
  unfold FX_rows_by g_rows_by
  refine ow_runPX [some (.d t1110), some (.d x), none, none, none, none] rfl ?_
  walk_at "wY1"
  refine ow_eq rules_yes ?_
  walk_at "wY1"
  refine ow_eq (line_no h hb) ?_
  walk_at "wY1"
  rfl
theorem rows_rules {x : D} : FX_rows_by [t2110, x] = some (.error ⟨"BadRules", none⟩) := by
  refine ow_get ?_
  unfold FX_rows_by g_rows_by
  refine ow_runPX [some (.d t2110), some (.d x), none, none, none, none] rfl ?_
  walk_at "wY1"
  refine ow_eq rules_no ?_
  walk_at "wY1"
  rfl
theorem right_ok {x : D} (h : nq 2 x = true) : F_law_right [x] = some (.d (.bool true)) := by
  refine ow_get ?_
  unfold F_law_right g_law_right
  refine ow_runP [some (.d x), none] rfl ?_
  walk_at "wY1"
  refine ow_eq (line_any h) ?_
  cases hb : lineB x with
  | true =>
    walk_at "wY1"
    refine sw_if ?_
    walk_at "wY1"
    refine ow_eq (deed_eq (as := [x]) rfl rfl (line_yes h hb) rfl (said_none _) rfl) ?_
    walk_at "wY1"
    refine sw_if ?_
    walk_at "wY1"
    refine ow_eq (deed_eq (as := [t2110, x]) rfl rfl rows_rules rfl said_rules rfl) ?_
    walk_at "wY1"
    exact congrArg (fun b => MO.d (PyData.bool b)) (decide_eq_true rfl)
  | false =>
    walk_at "wY1"
    refine sw_if ?_
    walk_at "wY1"
    refine ow_eq (deed_eq (as := [x]) rfl rfl (line_no h hb) rfl said_lineup rfl) ?_
    walk_at "wY1"
    refine sw_if ?_
    walk_at "wY1"
    refine iw_t (by decide +kernel) ?_
    walk_at "wY1"
    refine ow_eq (deed_eq (as := [t1110, x]) rfl rfl (rows_line h hb) rfl said_lineup rfl) ?_
    walk_at "wY1"
    refine ow_eq (deed_eq (as := [t2110, x]) rfl rfl rows_rules rfl said_rules rfl) ?_
    walk_at "wY1"
    exact congrArg (fun b => MO.d (PyData.bool b)) (decide_eq_true rfl)
def deepN : Nat → D
  | 0 => .tuple []
  | n + 1 => .tuple [deepN n]
def wideN : Nat → D
  | 0 => .tuple [.int 5, .str "came"]
  | n + 1 => .tuple [wideN n, wideN n]
theorem nq_deep : ∀ n m : Nat, nq n (deepN m) = true
  | 0, 0 => by decide
  | 0, m + 1 => by unfold nq; exact decide_eq_true (by simp [deepN, tyD])
  | n + 1, 0 => by unfold nq; rfl
  | n + 1, m + 1 => by
    unfold nq deepN
    dsimp only
    rw [decide_eq_true (by simp [tyD]), List.all_cons, nq_deep n m]
    rfl
theorem nq_leafI {n : Nat} {i : Int} : nq n (.int i) = true := by cases n <;> rfl
theorem nq_leafS {n : Nat} {i : Str} : nq n (.str i) = true := by cases n <;> rfl
theorem nq_tup {n : Nat} {xs : List D} (h : ∀ y ∈ xs, nq n y = true) : nq (n + 1) (.tuple xs) = true := by
  unfold nq
  rw [decide_eq_true (by simp [tyD]), Bool.true_and]
  exact List.all_eq_true.mpr h
theorem nq_tup0 {n : Nat} {xs : List D} (h : ∀ m, n = m + 1 → ∀ y ∈ xs, nq m y = true) : nq n (.tuple xs) = true := by
  cases n with
  | zero => rfl
  | succ n => exact nq_tup (h n rfl)
theorem nq_wide : ∀ n m : Nat, nq n (wideN m) = true
  | n, 0 => nq_tup0 fun m _ y hy => by
    simp only [List.mem_cons, List.mem_nil_iff, or_false] at hy
    rcases hy with rfl | rfl
    · exact nq_leafI
    · exact nq_leafS
  | 0, m + 1 => rfl
  | n + 1, m + 1 => nq_tup fun y hy => by
    simp only [List.mem_cons, List.mem_nil_iff, or_false] at hy
    rcases hy with rfl | rfl <;> exact nq_wide n m
theorem prOf_deep : ∀ n, prOf (deepN n) = none
  | 0 => rfl
  | n + 1 => prOf_len (xs := [deepN n]) (by show 1 ≠ 2; decide)
theorem prOf_wide1 : ∀ n, prOf (wideN (n + 1)) = none
  | 0 => rfl
  | n + 1 => rfl
theorem lineB_in {xs : List D} {y : D} (h : y ∈ xs) (e : prOf y = none) : lineB (.tuple xs) = false := by
  show (decide (xs.length ≤ 2000) && (match xs.mapM prOf with
    | some ps => lnB ps
    | none => false)) = false
  rw [mapM_none h (by rw [e]; rfl)]
  exact Bool.and_false _
structure Far (x : D) : Prop where
  q : ∀ n, nq n x = true
  p : prOf x = none
  l : lineB x = false
  w : wordB x = false
  i : wholeB x 0 9999 = false
theorem far_lst {xs : List D} : Far (.list xs) := ⟨fun n => by cases n <;> rfl, rfl, rfl, rfl, rfl⟩
theorem far_dict {kvs : List (D × D)} : Far (.dict ((.none, .bool true) :: kvs)) := ⟨fun n => by cases n <;> rfl, rfl, rfl, rfl, rfl⟩
theorem far_deep : ∀ n, Far (deepN (n + 1)) := fun n => ⟨fun m => nq_deep m _, prOf_deep _, lineB_in (.head _) (prOf_deep n), rfl, rfl⟩
theorem far_wide : ∀ n, Far (wideN (n + 2)) := fun n => ⟨fun m => nq_wide m _, prOf_wide1 _, lineB_in (.head _) (prOf_wide1 n), rfl, rfl⟩
def came5 : D := .tuple [.int 5, .str "came"]
def sixT (x : D) : List D := [x, .tuple [x], .tuple [.tuple [x, .str "came"]], .tuple [.tuple [.int 5, x]], .tuple [came5, x], .tuple [.tuple [came5, x]]]
theorem nq_came {n : Nat} : nq n came5 = true := nq_wide n 0
theorem far_six {x : D} (f : Far x) : ∀ y ∈ sixT x, nq 2 y = true ∧ lineB y = false := by
  have pr2 : ∀ a b : D, wholeB a 0 9999 = false ∨ wordB b = false → prOf (.tuple [a, b]) = none := fun a b h => by
    have := prOf_pair a b
    rw [show (wholeB a 0 9999 && wordB b) = false by rcases h with h | h <;> rw [h]; rfl; exact Bool.and_false _] at this
    cases hp : prOf (.tuple [a, b]) with
    | none => rfl
    | some p => rw [hp] at this; cases this
  intro y hy
  unfold sixT at hy
  simp only [List.mem_cons, List.mem_nil_iff, or_false] at hy
  have two : ∀ {n : Nat} {a b : D}, nq n a = true → nq n b = true → nq (n + 1) (.tuple [a, b]) = true := fun ha hb => nq_tup fun z hz => by
    simp only [List.mem_cons, List.mem_nil_iff, or_false] at hz
    rcases hz with rfl | rfl
    · exact ha
    · exact hb
  have one : ∀ {n : Nat} {a : D}, nq n a = true → nq (n + 1) (.tuple [a]) = true := fun ha => nq_tup fun z hz => by
    rw [List.mem_singleton.mp hz]; exact ha
  rcases hy with rfl | rfl | rfl | rfl | rfl | rfl
  · exact ⟨f.q _, f.l⟩
  · exact ⟨one (f.q _), lineB_in (.head _) f.p⟩
  · exact ⟨one (two (f.q _) nq_leafS), lineB_in (.head _) (pr2 _ _ (.inl f.i))⟩
  · exact ⟨one (two nq_leafI (f.q _)), lineB_in (.head _) (pr2 _ _ (.inr f.w))⟩
  · exact ⟨two nq_came (f.q _), lineB_in (.tail _ (.head _)) f.p⟩
  · exact ⟨one (two nq_came (f.q _)), lineB_in (.head _) (pr2 _ _ (.inl rfl))⟩
theorem far_ok : F_law_far_right [] = some (.d (.bool true)) := by
  refine ow_get ?_
  unfold F_law_far_right g_law_far_right
  refine ow_runP [none, none, none, none, none] rfl ?_
  walk_at "wY1"
  refine ow_rng1 (n := 90) (by decide) ?_
  walk_at "wY1"
  refine fw_xs (List.range 90) rfl (fun n ds => ∃ o2, ds = [some (.d (deepN n)), some (.d came5), o2, none, none]) ⟨none, rfl⟩ ?_ ?_
  · rintro n k hk ds ⟨o2, rfl⟩
    walk_at "wY1"
    exact ⟨_, rfl⟩
  rintro ds ⟨o2, rfl⟩
  rw [List.length_range]
  walk_at "wY1"
  refine ow_rng1 (n := 30) (by decide) ?_
  walk_at "wY1"
  refine fw_xs (List.range 30) rfl (fun n ds => ∃ o2, ds = [some (.d (deepN 90)), some (.d (wideN n)), o2, none, none]) ⟨_, rfl⟩ ?_ ?_
  · rintro n k hk ds ⟨o2, rfl⟩
    walk_at "wY1"
    exact ⟨_, rfl⟩
  rintro ds ⟨o2, rfl⟩
  rw [List.length_range]
  have f1 : Far (deepN 90) := far_deep 89
  have f2 : Far (wideN 30) := far_wide 28
  generalize deepN 90 = dd at f1 ⊢
  generalize wideN 30 = ww at f2 ⊢
  walk_at "wY1"
  refine ow_eq (x := .dict ((.none, .bool true) :: encKs (dispD ["a"] [ww]))) rfl ?_
  walk_at "wY1"
  refine fw_xs [dd, ww, .list [dd, ww], .dict ((.none, .bool true) :: encKs (dispD ["a"] [ww]))] (List.map_id' _).symm (fun n ds => ∃ o3 o4, ds = [some (.d dd), some (.d ww), o2, o3, o4]) ⟨none, none, rfl⟩ ?_ ?_
  · rintro n x hx ds ⟨o3, o4, rfl⟩
    have f : Far x := by
      have := List.mem_of_getElem? hx
      simp only [List.mem_cons, List.mem_nil_iff, or_false] at this
      rcases this with rfl | rfl | rfl | rfl
      · exact f1
      · exact f2
      · exact far_lst
      · exact far_dict
    walk_at "wY1"
    refine fw_xs (sixT x) (List.map_id' _).symm (fun n ds => ∃ o4, ds = [some (.d dd), some (.d ww), o2, some (.d x), o4]) ⟨_, rfl⟩ ?_ ?_
    · rintro m y hy ds ⟨o4, rfl⟩
      obtain ⟨q, l⟩ := far_six f y (List.mem_of_getElem? hy)
      walk_at "wY1"
      refine sw_if ?_
      walk_at "wY1"
      refine ow_eq (deed_eq (as := [y]) rfl rfl (line_no q l) rfl said_lineup rfl) ?_
      walk_at "wY1"
      exact ⟨_, rfl⟩
    · rintro ds ⟨o4, rfl⟩
      exact ⟨_, _, rfl⟩
  · rintro ds ⟨o3, o4, rfl⟩
    walk_at "wY1"
    rfl
def W6 : List Str := ["came", "told", "missed", "given", "struck", "home"]
def BInv (k : Nat) (ds : DS2) : Prop := ∃ es o1 o3 o4 o5, (∀ y ∈ es, nq 2 y = true) ∧ es.length ≤ k ∧ ds = [some (.lst es), o1, some (.d (.list (W6.map .str))), o3, o4, o5]
theorem nq_pr {n : Nat} {i : Int} {w : Str} : nq n (.tuple [.int i, .str w]) = true := nq_tup0 fun m _ y hy => by
  simp only [List.mem_cons, List.mem_nil_iff, or_false] at hy
  rcases hy with rfl | rfl
  · exact nq_leafI
  · exact nq_leafS
theorem nq_prs {n : Nat} {xs : List D} (h : ∀ y ∈ xs, ∃ i w, y = .tuple [.int i, .str w]) : nq n (.tuple xs) = true := nq_tup0 fun m _ y hy => by
  obtain ⟨i, w, rfl⟩ := h y hy
  exact nq_pr
def first5 : List D := [.tuple [], .tuple [.tuple [.int 0, .str "came"], .tuple [.int 9999, .str "came"]], .tuple [.tuple [.int 0, .str "came"], .tuple [.int 10000, .str "came"]], .tuple [.tuple [.int (-1), .str "came"]], .tuple [.tuple [.bool true, .str "came"]]]
theorem first5_ok : ∀ y ∈ first5, nq 2 y = true := by decide +kernel
theorem app_nq {es : List D} {y : D} (h : ∀ y ∈ es, nq 2 y = true) (hy : nq 2 y = true) : ∀ z ∈ es ++ [y], nq 2 z = true := fun z hz => by
  rcases List.mem_append.mp hz with q | q
  · exact h z q
  · rw [List.mem_singleton.mp q]; exact hy
theorem bounds_ok : F_law_bounds_right [] = some (.d (.bool true)) := by
  refine ow_get ?_
  unfold F_law_bounds_right g_law_bounds_right
  refine ow_runP [none, none, none, none, none, none] rfl ?_
  walk_at "wY1"
  refine fw_xs [(0 : Int), 1] (enc := PyData.int) rfl (fun n ds => ∃ es o1, (∀ y ∈ es, nq 2 y = true) ∧ es.length ≤ 5 + n ∧ ds = [some (.lst es), o1, none, none, none, none]) ⟨first5, none, first5_ok, by decide, rfl⟩ ?_ ?_
  · rintro n i hi ds ⟨es, o1, g, l, rfl⟩
    have hi2 : i = 0 ∨ i = 1 := by
      have := List.mem_of_getElem? hi
      simpa using this
    have hn : n < 2 := (List.getElem?_eq_some_iff.mp hi).1
    walk_at "wY1"
    refine ow_lcAll (List.range (2000 + i.toNat)) (fun k : Nat => PyData.int (k : Nat)) (fun k : Nat => .tuple [.int (k : Nat), .str "missed"]) ?_
    walk_at "wY1"
    have e : (2000 : Int) + i = ((2000 + i.toNat : Nat) : Int) := by omega
    rw [e]
    refine ow_rng1 (by omega) ?_
    refine ⟨rfl, fun k hk => ?_, ?_⟩
    · walk_at "wY1"
      rfl
    walk_at "wY1"
    refine ow_app (by have : (1000000 : Nat) ≤ sizeLine := (by decide); omega) ?_
    walk_at "wY1"
    refine ⟨_, _, app_nq g (nq_prs fun y hy => ?_), by rw [List.length_append]; show es.length + 1 ≤ _; omega, rfl⟩
    obtain ⟨k, hk, rfl⟩ := List.mem_map.mp hy
    exact ⟨_, _, rfl⟩
  rintro ds ⟨es, o1, g, l, rfl⟩
  walk_at "wY1"
  refine fw_xs W6 (enc := PyData.str) rfl (fun n ds => BInv (7 + 24 * n) ds) ⟨es, o1, none, none, none, g, l, rfl⟩ ?_ ?_
  · rintro n a ha ds ⟨es, o1, o3, o4, o5, g, l, rfl⟩
    have hn : n < 6 := (List.getElem?_eq_some_iff.mp ha).1
    walk_at "wY1"
    refine fw_xs W6 (enc := PyData.str) rfl (fun m ds => ∃ es o1 o4 o5, (∀ y ∈ es, nq 2 y = true) ∧ es.length ≤ 7 + 24 * n + 4 * m ∧ ds = [some (.lst es), o1, some (.d (.list (W6.map .str))), some (.d (.str a)), o4, o5]) ⟨es, o1, o4, o5, g, by omega, rfl⟩ ?_ ?_
    · rintro m b hb ds ⟨es, o1, o4, o5, g, l, rfl⟩
      have hm : m < 6 := (List.getElem?_eq_some_iff.mp hb).1
      walk_at "wY1"
      refine fw_xs [(4 : Int), 5, 6] (enc := PyData.int) rfl (fun j ds => ∃ es o5, (∀ y ∈ es, nq 2 y = true) ∧ es.length ≤ 7 + 24 * n + 4 * m + j ∧ ds = [some (.lst es), o1, some (.d (.list (W6.map .str))), some (.d (.str a)), some (.d (.str b)), o5]) ⟨es, o5, g, by omega, rfl⟩ ?_ ?_
      · rintro j i hi ds ⟨es, o5, g, l, rfl⟩
        have hj : j < 3 := (List.getElem?_eq_some_iff.mp hi).1
        walk_at "wY1"
        refine ow_app (by have : (1000000 : Nat) ≤ sizeLine := (by decide); omega) ?_
        walk_at "wY1"
        refine ⟨_, _, app_nq g (nq_prs fun y hy => ?_), by rw [List.length_append]; show es.length + 1 ≤ _; omega, rfl⟩
        simp only [List.mem_cons, List.mem_nil_iff, or_false] at hy
        rcases hy with rfl | rfl <;> exact ⟨_, _, rfl⟩
      · rintro ds ⟨es, o5, g, l, rfl⟩
        have l : es.length ≤ 7 + 24 * n + 4 * m + 3 := l
        walk_at "wY1"
        refine ow_app (by have : (1000000 : Nat) ≤ sizeLine := (by decide); omega) ?_
        walk_at "wY1"
        refine ⟨_, _, _, _, app_nq g (nq_prs fun y hy => ?_), by rw [List.length_append]; show es.length + 1 ≤ _; omega, rfl⟩
        simp only [List.mem_cons, List.mem_nil_iff, or_false] at hy
        rcases hy with rfl | rfl | rfl <;> exact ⟨_, _, rfl⟩
    · rintro ds ⟨es, o1, o4, o5, g, l, rfl⟩
      have l : es.length ≤ 7 + 24 * n + 4 * 6 := l
      exact ⟨es, o1, _, _, _, g, by omega, rfl⟩
  rintro ds ⟨es, o1, o3, o4, o5, g, l, rfl⟩
  walk_at "wY1"
  refine ow_lcSome es (fun y => y) (fun _ => false) (fun y => y) ?_
  walk_at "wY1"
  refine ⟨(List.map_id' es).symm, fun y hy => ?_, ?_⟩
  · walk_at "wY1"
    refine ow_eq (right_ok (g y hy)) ?_
    walk_at "wY1"
    exact ⟨rfl, nofun⟩
  walk_at "wY1"
  rw [show es.filter (fun _ => false) = [] from List.filter_eq_nil_iff.mpr fun _ _ h => by cases h]
  refine ow_eq (x := .bool true) rfl ?_
  walk_at "wY1"
  refine ow_eq (okX_ok (line_yes (x := .tuple []) (by decide +kernel) (by decide +kernel))) ?_
  walk_at "wY1"
  rfl
theorem state_ok (ns : List Int) : F_law_state [.list (ns.map .int)] = some (.dic (stK ns 0 0 0)) := by
  refine ow_get ?_
  unfold F_law_state g_law_state
  refine ow_runP [some (.d (.list (ns.map .int)))] rfl ?_
  walk_at "wY1"
  rfl
theorem plain (ns : List Int) (hn : ns.length ≤ 63) : F_law ns [] = some (.d (.bool true)) := by
  refine ow_get ?_
  unfold F_law g_law
  refine ow_runC [some (.scr ns), none, none, none, none, none, none, none] rfl ?_
  walk_at "wY1"
  refine ow_scSl (ns := ns) rfl (by have : (1000000 : Nat) ≤ sizeLine := (by decide); omega) ?_
  walk_at "wY1"
  have c63 : DL.cutD (ns.map PyData.int) none (some 63) = ns.map .int := by
    unfold DL.cutD
    rw [show (some (63 : Int)) = some ((63 : Nat) : Int) from rfl, HT.sIx_nat, HT.sIx_none, List.drop_zero]
    exact List.take_of_length_le (by rw [List.length_map]; omega)
  rw [c63]
  refine ow_eq (state_ok ns) ?_
  walk_at "wY1"
  rw [show (2 + if (ns.length : Int) / 8 < 4 then (ns.length : Int) / 8 else 4) = ((2 + min 4 (ns.length / 8) : Nat) : Int) by split <;> omega]
  refine ow_rng1 (by omega) ?_
  generalize hN : 2 + min 4 (ns.length / 8) = N
  have hN5 : N ≤ 6 := by omega
  walk_at "wY1"
  refine fw_xs (List.range N) rfl (fun n ds => ∃ s o2 o3 o4 o5 o6 o7, SK (2000 * (N - n)) s ∧ ds = [some (.scr ns), some (.dic s), o2, o3, o4, o5, o6, o7]) ⟨_, _, _, _, _, _, _, ⟨ns, 0, 0, 0, rfl, by decide, by omega, by decide, by decide, hn⟩, rfl⟩ ?_ ?_
  · rintro n k hk ds ⟨s, o2, o3, o4, o5, o6, o7, w, rfl⟩
    obtain ⟨hn2, _⟩ := List.getElem?_eq_some_iff.mp hk
    rw [List.length_range] at hn2
    have w : SK (2000 * (N - (n + 1)) + 1900 + 1) s := w.mono (by omega)
    walk_at "wY1"
    refine w_next w (by decide) (by decide) fun r s1 a1 b1 w => ?_
    obtain ⟨m, rfl⟩ := Int.eq_ofNat_of_zero_le a1
    walk_at "wY1"
    refine w_lineT (B := 2000 * (N - (n + 1)) + 1800) (w.mono (by omega)) (by omega) fun x s2 tx w => ?_
    walk_at "wY1"
    refine ow_rng1 (n := 8) (by decide) ?_
    walk_at "wY1"
    refine fw_xs (List.range 8) rfl (fun j ds => ∃ s o4 o5 o6 o7, SK (2000 * (N - (n + 1)) + 100 * (8 - j)) s ∧ ds = [some (.scr ns), some (.dic s), some (.d (.int (k : Nat))), some (.d x), o4, o5, o6, o7]) ⟨_, _, _, _, _, w.mono (by omega), rfl⟩ ?_ ?_
    · rintro j j2 hj ds ⟨s, o4, o5, o6, o7, w, rfl⟩
      obtain ⟨hj2, hj3⟩ := List.getElem?_eq_some_iff.mp hj
      rw [List.length_range] at hj2
      rw [List.getElem_range] at hj3
      subst hj3
      walk_at "wY1"
      rw [show ((j : Int) % 3) = ((j % 3 : Nat) : Int) by omega]
      refine ow_rng1 (by omega) ?_
      generalize hM : j % 3 = M
      have hM3 : M ≤ 2 := by omega
      walk_at "wY1"
      refine fw_xs (List.range M) rfl (fun i ds => ∃ s y o6, tr (12 + i) (2 + i) y ∧ SK (2000 * (N - (n + 1)) + 100 * (8 - (j + 1)) + 40 * (M - i)) s ∧ ds = [some (.scr ns), some (.dic s), some (.d (.int (k : Nat))), some (.d x), some (.d (.int (j : Nat))), some (.d y), o6, o7]) ⟨s, x, o6, tx, w.mono (by omega), rfl⟩ ?_ ?_
      · rintro i i2 hi ds ⟨s, y, o6, ty, w, rfl⟩
        obtain ⟨hi2, _⟩ := List.getElem?_eq_some_iff.mp hi
        rw [List.length_range] at hi2
        walk_at "wY1"
        refine w_bent (b := 12 + i) (by omega) (by omega) 7 (2 + i) (B := 2000 * (N - (n + 1)) + 100 * (8 - (j + 1)) + 40 * (M - (i + 1))) (by omega) (w.mono (by omega)) ty fun z s3 tz w => ?_
        walk_at "wY1"
        exact ⟨_, _, _, tz, w, rfl⟩
      · rintro ds ⟨s, y, o6, ty, w, rfl⟩
        rw [List.length_range] at ty w
        have ty : tr 14 4 y := tr_up (by omega) ty (by omega)
        walk_at "wY1"
        refine ow_eq (tr_repr ty) ?_
        walk_at "wY1"
        refine sw_if ?_
        walk_at "wY1"
        refine ow_eq (right_ok (tr_nq ty)) ?_
        walk_at "wY1"
        refine ow_eq (tr_repr ty) ?_
        walk_at "wY1"
        exact ⟨_, _, _, _, _, w.mono (by omega), rfl⟩
    · rintro ds ⟨s, o4, o5, o6, o7, w, rfl⟩
      exact ⟨_, _, _, _, _, _, _, w.mono (by rw [List.length_range]; omega), rfl⟩
  · rintro ds ⟨s, o2, o3, o4, o5, o6, o7, w, rfl⟩
    walk_at "wX1"
    refine ow_eq bounds_ok ?_
    walk_at "wX1"
    refine ow_eq far_ok ?_
    walk_at "wX1"
    rfl
variable {TBL : DL.TabL}
theorem all_mk {l : PySem.W.OpenLaw} {w : World} {K : PySem.W.Frag} {h : Heap} {mg : Str → Option Value} {fa f1 f2 f3 f4 f5 f6 f7 f8 f9 f10 f11 f12 f13 f14 f15 f16 f17 f18 f19 f20 f21 f22 f23 f24 f25 : Addr} (X : K.In h) (G : h.Ns mainGlobals mg) (hfa : mg "law" = some (.ref fa))
    {od1 an1 od2 an2 od3 an3 od4 an4 od5 an5 od6 an6 od7 an7 od8 an8 od9 an9 od10 an10 od11 an11 od12 an12 od13 an13 od14 an14 od15 an15 od16 an16 od17 an17 od18 an18 od19 an19 od20 an20 od21 an21 od22 an22 od23 an23 od24 an24 od25 an25 : Option Addr} {sl1 sl2 sl3 sl4 sl5 sl6 sl7 sl8 sl9 sl10 sl11 sl12 sl13 sl14 sl15 sl16 sl17 sl18 sl19 sl20 sl21 sl22 sl23 sl24 sl25 : Array (Option Value)} {oc1 kV1 dc1 pm1 cd1 ct1 oc2 kV2 dc2 pm2 cd2 ct2 oc3 kV3 dc3 pm3 cd3 ct3 oc4 kV4 dc4 pm4 cd4 ct4 oc5 kV5 dc5 pm5 cd5 ct5 oc6 kV6 dc6 pm6 cd6 ct6 oc7 kV7 dc7 pm7 cd7 ct7 oc8 kV8 dc8 pm8 cd8 ct8 oc9 kV9 dc9 pm9 cd9 ct9 oc10 kV10 dc10 pm10 cd10 ct10 oc11 kV11 dc11 pm11 cd11 ct11 oc12 kV12 dc12 pm12 cd12 ct12 oc13 kV13 dc13 pm13 cd13 ct13 oc14 kV14 dc14 pm14 cd14 ct14 oc15 kV15 dc15 pm15 cd15 ct15 oc16 kV16 dc16 pm16 cd16 ct16 oc17 kV17 dc17 pm17 cd17 ct17 oc18 kV18 dc18 pm18 cd18 ct18 oc19 kV19 dc19 pm19 cd19 ct19 oc20 kV20 dc20 pm20 cd20 ct20 oc21 kV21 dc21 pm21 cd21 ct21 oc22 kV22 dc22 pm22 cd22 ct22 oc23 kV23 dc23 pm23 cd23 ct23 oc24 kV24 dc24 pm24 cd24 ct24 oc25 kV25 dc25 pm25 cd25 ct25 : Value} {t_MOST_OF t_MOST_DAY t_MOST_PAIRS : Tok} {d_LINE_WORDS : Addr} {e_LINE_WORDS : Array Value} {n_LINE_WORDS : Nat} {s_LINE_WORDS : Array (Option Value)} {d_ROLL_WORDS : Addr} {e_ROLL_WORDS : Array Value} {n_ROLL_WORDS : Nat} {s_ROLL_WORDS : Array (Option Value)} {c_BadRules c_BadLineup c_BadGround c_BadTrader c_BadDay c_BadName c_BadPitch c_BadDeal c_BadPaper c_BadLine c_BadEvent c_Twice c_TooMany c_BadMend c_NoEvent c_NoDay c_BadHistory c_MarketError : Addr} {o_Roll : Addr}
    (a1 : PySem.W.nsIn K mainGlobals "is_whole" = some (some (.ref f1)))
    (l1 : K.lookup f1 = some ⟨oc1, od1, .func (PySem.W.fnOf "is_whole" "is_whole" (defArgs st_is_whole) (defBody st_is_whole) (defScope st_is_whole) .none kV1 dc1 pm1 an1 cd1 ct1), sl1⟩) (c1 : PySem.W.codeIn K cd1 "is_whole" = true) (k1 : PySem.W.keepIn K (.ref f1) = true)
    (a2 : PySem.W.nsIn K mainGlobals "need_rules" = some (some (.ref f2)))
    (l2 : K.lookup f2 = some ⟨oc2, od2, .func (PySem.W.fnOf "need_rules" "need_rules" (defArgs st_need_rules) (defBody st_need_rules) (defScope st_need_rules) .none kV2 dc2 pm2 an2 cd2 ct2), sl2⟩) (c2 : PySem.W.codeIn K cd2 "need_rules" = true) (k2 : PySem.W.keepIn K (.ref f2) = true)
    (a3 : PySem.W.nsIn K mainGlobals "is_pair" = some (some (.ref f3)))
    (l3 : K.lookup f3 = some ⟨oc3, od3, .func (PySem.W.fnOf "is_pair" "is_pair" (defArgs st_is_pair) (defBody st_is_pair) (defScope st_is_pair) .none kV3 dc3 pm3 an3 cd3 ct3), sl3⟩) (c3 : PySem.W.codeIn K cd3 "is_pair" = true) (k3 : PySem.W.keepIn K (.ref f3) = true)
    (a4 : PySem.W.nsIn K mainGlobals "may_follow" = some (some (.ref f4)))
    (l4 : K.lookup f4 = some ⟨oc4, od4, .func (PySem.W.fnOf "may_follow" "may_follow" (defArgs st_may_follow) (defBody st_may_follow) (defScope st_may_follow) .none kV4 dc4 pm4 an4 cd4 ct4), sl4⟩) (c4 : PySem.W.codeIn K cd4 "may_follow" = true) (k4 : PySem.W.keepIn K (.ref f4) = true)
    (a5 : PySem.W.nsIn K mainGlobals "need_line" = some (some (.ref f5)))
    (l5 : K.lookup f5 = some ⟨oc5, od5, .func (PySem.W.fnOf "need_line" "need_line" (defArgs st_need_line) (defBody st_need_line) (defScope st_need_line) .none kV5 dc5 pm5 an5 cd5 ct5), sl5⟩) (c5 : PySem.W.codeIn K cd5 "need_line" = true) (k5 : PySem.W.keepIn K (.ref f5) = true)
    (a6 : PySem.W.nsIn K mainGlobals "days_of" = some (some (.ref f6)))
    (l6 : K.lookup f6 = some ⟨oc6, od6, .func (PySem.W.fnOf "days_of" "days_of" (defArgs st_days_of) (defBody st_days_of) (defScope st_days_of) .none kV6 dc6 pm6 an6 cd6 ct6), sl6⟩) (c6 : PySem.W.codeIn K cd6 "days_of" = true) (k6 : PySem.W.keepIn K (.ref f6) = true)
    (a7 : PySem.W.findIn K (.ref o_Roll) "__init__" = some (some (.ref f7))) (i7 : PySem.W.isFn K (.ref f7) = true)
    (l7 : K.lookup f7 = some ⟨oc7, od7, .func (PySem.W.fnOf "__init__" "Roll.__init__" (defArgs st_Roll___init__) (defBody st_Roll___init__) (defScope st_Roll___init__) .none kV7 dc7 pm7 an7 cd7 ct7), sl7⟩) (c7 : PySem.W.codeIn K cd7 "Roll.__init__" = true) (k7 : PySem.W.keepIn K (.ref f7) = true)
    (a8 : PySem.W.findIn K (.ref o_Roll) "has_standing" = some (some (.ref f8))) (i8 : PySem.W.isFn K (.ref f8) = true)
    (l8 : K.lookup f8 = some ⟨oc8, od8, .func (PySem.W.fnOf "has_standing" "Roll.has_standing" (defArgs st_Roll_has_standing) (defBody st_Roll_has_standing) (defScope st_Roll_has_standing) .none kV8 dc8 pm8 an8 cd8 ct8), sl8⟩) (c8 : PySem.W.codeIn K cd8 "Roll.has_standing" = true) (k8 : PySem.W.keepIn K (.ref f8) = true)
    (a9 : PySem.W.findIn K (.ref o_Roll) "emptied" = some (some (.ref f9))) (i9 : PySem.W.isFn K (.ref f9) = true)
    (l9 : K.lookup f9 = some ⟨oc9, od9, .func (PySem.W.fnOf "emptied" "Roll.emptied" (defArgs st_Roll_emptied) (defBody st_Roll_emptied) (defScope st_Roll_emptied) .none kV9 dc9 pm9 an9 cd9 ct9), sl9⟩) (c9 : PySem.W.codeIn K cd9 "Roll.emptied" = true) (k9 : PySem.W.keepIn K (.ref f9) = true)
    (a10 : PySem.W.findIn K (.ref o_Roll) "lost_by" = some (some (.ref f10))) (i10 : PySem.W.isFn K (.ref f10) = true)
    (l10 : K.lookup f10 = some ⟨oc10, od10, .func (PySem.W.fnOf "lost_by" "Roll.lost_by" (defArgs st_Roll_lost_by) (defBody st_Roll_lost_by) (defScope st_Roll_lost_by) .none kV10 dc10 pm10 an10 cd10 ct10), sl10⟩) (c10 : PySem.W.codeIn K cd10 "Roll.lost_by" = true) (k10 : PySem.W.keepIn K (.ref f10) = true)
    (a11 : PySem.W.findIn K (.ref o_Roll) "came_days" = some (some (.ref f11))) (i11 : PySem.W.isFn K (.ref f11) = true)
    (l11 : K.lookup f11 = some ⟨oc11, od11, .func (PySem.W.fnOf "came_days" "Roll.came_days" (defArgs st_Roll_came_days) (defBody st_Roll_came_days) (defScope st_Roll_came_days) .none kV11 dc11 pm11 an11 cd11 ct11), sl11⟩) (c11 : PySem.W.codeIn K cd11 "Roll.came_days" = true) (k11 : PySem.W.keepIn K (.ref f11) = true)
    (a12 : PySem.W.findIn K (.ref o_Roll) "went_on" = some (some (.ref f12))) (i12 : PySem.W.isFn K (.ref f12) = true)
    (l12 : K.lookup f12 = some ⟨oc12, od12, .func (PySem.W.fnOf "went_on" "Roll.went_on" (defArgs st_Roll_went_on) (defBody st_Roll_went_on) (defScope st_Roll_went_on) .none kV12 dc12 pm12 an12 cd12 ct12), sl12⟩) (c12 : PySem.W.codeIn K cd12 "Roll.went_on" = true) (k12 : PySem.W.keepIn K (.ref f12) = true)
    (a13 : PySem.W.nsIn K mainGlobals "rows_by" = some (some (.ref f13)))
    (l13 : K.lookup f13 = some ⟨oc13, od13, .func (PySem.W.fnOf "rows_by" "rows_by" (defArgs st_rows_by) (defBody st_rows_by) (defScope st_rows_by) .none kV13 dc13 pm13 an13 cd13 ct13), sl13⟩) (c13 : PySem.W.codeIn K cd13 "rows_by" = true) (k13 : PySem.W.keepIn K (.ref f13) = true)
    (a14 : PySem.W.nsIn K mainGlobals "_law_next" = some (some (.ref f14)))
    (l14 : K.lookup f14 = some ⟨oc14, od14, .func (PySem.W.fnOf "_law_next" "_law_next" (defArgs st_law_next) (defBody st_law_next) (defScope st_law_next) .none kV14 dc14 pm14 an14 cd14 ct14), sl14⟩) (c14 : PySem.W.codeIn K cd14 "_law_next" = true) (k14 : PySem.W.keepIn K (.ref f14) = true)
    (a15 : PySem.W.nsIn K mainGlobals "_law_state" = some (some (.ref f15)))
    (l15 : K.lookup f15 = some ⟨oc15, od15, .func (PySem.W.fnOf "_law_state" "_law_state" (defArgs st_law_state) (defBody st_law_state) (defScope st_law_state) .none kV15 dc15 pm15 an15 cd15 ct15), sl15⟩) (c15 : PySem.W.codeIn K cd15 "_law_state" = true) (k15 : PySem.W.keepIn K (.ref f15) = true)
    (a16 : PySem.W.nsIn K mainGlobals "_law_kinds" = some (some (.ref f16)))
    (l16 : K.lookup f16 = some ⟨oc16, od16, .func (PySem.W.fnOf "_law_kinds" "_law_kinds" (defArgs st_law_kinds) (defBody st_law_kinds) (defScope st_law_kinds) .none kV16 dc16 pm16 an16 cd16 ct16), sl16⟩) (c16 : PySem.W.codeIn K cd16 "_law_kinds" = true) (k16 : PySem.W.keepIn K (.ref f16) = true)
    (a17 : PySem.W.nsIn K mainGlobals "_law_said" = some (some (.ref f17)))
    (l17 : K.lookup f17 = some ⟨oc17, od17, .func (PySem.W.fnOf "_law_said" "_law_said" (defArgs st_law_said) (defBody st_law_said) (defScope st_law_said) .none kV17 dc17 pm17 an17 cd17 ct17), sl17⟩) (c17 : PySem.W.codeIn K cd17 "_law_said" = true) (k17 : PySem.W.keepIn K (.ref f17) = true)
    (a18 : PySem.W.nsIn K mainGlobals "_law_is_line" = some (some (.ref f18)))
    (l18 : K.lookup f18 = some ⟨oc18, od18, .func (PySem.W.fnOf "_law_is_line" "_law_is_line" (defArgs st_law_is_line) (defBody st_law_is_line) (defScope st_law_is_line) .none kV18 dc18 pm18 an18 cd18 ct18), sl18⟩) (c18 : PySem.W.codeIn K cd18 "_law_is_line" = true) (k18 : PySem.W.keepIn K (.ref f18) = true)
    (a19 : PySem.W.nsIn K mainGlobals "_law_line" = some (some (.ref f19)))
    (l19 : K.lookup f19 = some ⟨oc19, od19, .func (PySem.W.fnOf "_law_line" "_law_line" (defArgs st_law_line) (defBody st_law_line) (defScope st_law_line) .none kV19 dc19 pm19 an19 cd19 ct19), sl19⟩) (c19 : PySem.W.codeIn K cd19 "_law_line" = true) (k19 : PySem.W.keepIn K (.ref f19) = true)
    (a20 : PySem.W.nsIn K mainGlobals "_law_odd" = some (some (.ref f20)))
    (l20 : K.lookup f20 = some ⟨oc20, od20, .func (PySem.W.fnOf "_law_odd" "_law_odd" (defArgs st_law_odd) (defBody st_law_odd) (defScope st_law_odd) .none kV20 dc20 pm20 an20 cd20 ct20), sl20⟩) (c20 : PySem.W.codeIn K cd20 "_law_odd" = true) (k20 : PySem.W.keepIn K (.ref f20) = true)
    (a21 : PySem.W.nsIn K mainGlobals "_law_bent" = some (some (.ref f21)))
    (l21 : K.lookup f21 = some ⟨oc21, od21, .func (PySem.W.fnOf "_law_bent" "_law_bent" (defArgs st_law_bent) (defBody st_law_bent) (defScope st_law_bent) .none kV21 dc21 pm21 an21 cd21 ct21), sl21⟩) (c21 : PySem.W.codeIn K cd21 "_law_bent" = true) (k21 : PySem.W.keepIn K (.ref f21) = true)
    (a22 : PySem.W.nsIn K mainGlobals "_law_right" = some (some (.ref f22)))
    (l22 : K.lookup f22 = some ⟨oc22, od22, .func (PySem.W.fnOf "_law_right" "_law_right" (defArgs st_law_right) (defBody st_law_right) (defScope st_law_right) .none kV22 dc22 pm22 an22 cd22 ct22), sl22⟩) (c22 : PySem.W.codeIn K cd22 "_law_right" = true) (k22 : PySem.W.keepIn K (.ref f22) = true)
    (a23 : PySem.W.nsIn K mainGlobals "_law_bounds_right" = some (some (.ref f23)))
    (l23 : K.lookup f23 = some ⟨oc23, od23, .func (PySem.W.fnOf "_law_bounds_right" "_law_bounds_right" (defArgs st_law_bounds_right) (defBody st_law_bounds_right) (defScope st_law_bounds_right) .none kV23 dc23 pm23 an23 cd23 ct23), sl23⟩) (c23 : PySem.W.codeIn K cd23 "_law_bounds_right" = true) (k23 : PySem.W.keepIn K (.ref f23) = true)
    (a24 : PySem.W.nsIn K mainGlobals "_law_far_right" = some (some (.ref f24)))
    (l24 : K.lookup f24 = some ⟨oc24, od24, .func (PySem.W.fnOf "_law_far_right" "_law_far_right" (defArgs st_law_far_right) (defBody st_law_far_right) (defScope st_law_far_right) .none kV24 dc24 pm24 an24 cd24 ct24), sl24⟩) (c24 : PySem.W.codeIn K cd24 "_law_far_right" = true) (k24 : PySem.W.keepIn K (.ref f24) = true)
    (a25 : PySem.W.nsIn K mainGlobals "law" = some (some (.ref f25)))
    (l25 : K.lookup f25 = some ⟨oc25, od25, .func (PySem.W.fnOf "law" "law" (defArgs st_law) (defBody st_law) (defScope st_law) .none kV25 dc25 pm25 an25 cd25 ct25), sl25⟩) (c25 : PySem.W.codeIn K cd25 "law" = true) (k25 : PySem.W.keepIn K (.ref f25) = true)
    (oa_Roll : PySem.W.nsIn K mainGlobals "Roll" = some (some (.ref o_Roll))) (ob_Roll : PySem.W.plainGet K o_Roll Str.empty = true) (oc_Roll : PySem.W.hasDictIn K o_Roll = true) (od_Roll : PySem.W.plainOver K o_Roll = true) (oe_Roll : PySem.W.findIn K (.ref o_Roll) "__setattr__" = some (some (.builtin "object.__setattr__"))) (of_Roll : PySem.W.makesIn K o_Roll = true) (og_Roll : PySem.W.keepIn K (.ref o_Roll) = true)
    (oh_Roll_own_rules : PySem.W.findIn K (.ref o_Roll) "own_rules" = some none)
    (oh_Roll_pairs : PySem.W.findIn K (.ref o_Roll) "pairs" = some none)
    (oh_Roll_earned_by : PySem.W.findIn K (.ref o_Roll) "earned_by" = some none)
    (z_bool : PySem.W.nsIn K mainGlobals "bool" = some none)
    (z_isinstance : PySem.W.nsIn K mainGlobals "isinstance" = some none)
    (z_int : PySem.W.nsIn K mainGlobals "int" = some none)
    (z_tuple : PySem.W.nsIn K mainGlobals "tuple" = some none)
    (z_len : PySem.W.nsIn K mainGlobals "len" = some none)
    (z_all : PySem.W.nsIn K mainGlobals "all" = some none)
    (z_str : PySem.W.nsIn K mainGlobals "str" = some none)
    (z_zip : PySem.W.nsIn K mainGlobals "zip" = some none)
    (z_max : PySem.W.nsIn K mainGlobals "max" = some none)
    (z_abs : PySem.W.nsIn K mainGlobals "abs" = some none)
    (z_ValueError : PySem.W.nsIn K mainGlobals "ValueError" = some none)
    (z_range : PySem.W.nsIn K mainGlobals "range" = some none)
    (z_list : PySem.W.nsIn K mainGlobals "list" = some none)
    (z_min : PySem.W.nsIn K mainGlobals "min" = some none)
    (z_repr : PySem.W.nsIn K mainGlobals "repr" = some none)
    (y_MOST_OF : PySem.W.nsIn K mainGlobals "MOST_OF" = some (some (.int 30 t_MOST_OF)))
    (y_MOST_DAY : PySem.W.nsIn K mainGlobals "MOST_DAY" = some (some (.int 9999 t_MOST_DAY)))
    (y_MOST_PAIRS : PySem.W.nsIn K mainGlobals "MOST_PAIRS" = some (some (.int 2000 t_MOST_PAIRS)))
    (u_LINE_WORDS : PySem.W.nsIn K mainGlobals "LINE_WORDS" = some (some (.ref d_LINE_WORDS))) (v_LINE_WORDS : K.lookup d_LINE_WORDS = some ⟨.type "tuple", none, .seq e_LINE_WORDS n_LINE_WORDS, s_LINE_WORDS⟩) (r_LINE_WORDS : Vals ((["came", "told", "missed", "given", "struck"] : List Str).map V.str) e_LINE_WORDS.toList)
    (u_ROLL_WORDS : PySem.W.nsIn K mainGlobals "ROLL_WORDS" = some (some (.ref d_ROLL_WORDS))) (v_ROLL_WORDS : K.lookup d_ROLL_WORDS = some ⟨.type "tuple", none, .seq e_ROLL_WORDS n_ROLL_WORDS, s_ROLL_WORDS⟩) (r_ROLL_WORDS : Vals ((["came", "told", "missed"] : List Str).map V.str) e_ROLL_WORDS.toList)
    (xa_BadRules : PySem.W.nsIn K mainGlobals "BadRules" = some (some (.ref c_BadRules))) (xt_BadRules : PySem.W.typeIn K (.ref c_BadRules) = some (.type "type")) (xd_BadRules : PySem.W.hasDictIn K c_BadRules = true) (xs_BadRules : PySem.W.subIn K (.ref c_BadRules) (.type "BaseException") = some true)
    (xa_BadLineup : PySem.W.nsIn K mainGlobals "BadLineup" = some (some (.ref c_BadLineup))) (xt_BadLineup : PySem.W.typeIn K (.ref c_BadLineup) = some (.type "type")) (xd_BadLineup : PySem.W.hasDictIn K c_BadLineup = true) (xs_BadLineup : PySem.W.subIn K (.ref c_BadLineup) (.type "BaseException") = some true)
    (xa_BadGround : PySem.W.nsIn K mainGlobals "BadGround" = some (some (.ref c_BadGround))) (xt_BadGround : PySem.W.typeIn K (.ref c_BadGround) = some (.type "type")) (xd_BadGround : PySem.W.hasDictIn K c_BadGround = true) (xs_BadGround : PySem.W.subIn K (.ref c_BadGround) (.type "BaseException") = some true)
    (xa_BadTrader : PySem.W.nsIn K mainGlobals "BadTrader" = some (some (.ref c_BadTrader))) (xt_BadTrader : PySem.W.typeIn K (.ref c_BadTrader) = some (.type "type")) (xd_BadTrader : PySem.W.hasDictIn K c_BadTrader = true) (xs_BadTrader : PySem.W.subIn K (.ref c_BadTrader) (.type "BaseException") = some true)
    (xa_BadDay : PySem.W.nsIn K mainGlobals "BadDay" = some (some (.ref c_BadDay))) (xt_BadDay : PySem.W.typeIn K (.ref c_BadDay) = some (.type "type")) (xd_BadDay : PySem.W.hasDictIn K c_BadDay = true) (xs_BadDay : PySem.W.subIn K (.ref c_BadDay) (.type "BaseException") = some true)
    (xa_BadName : PySem.W.nsIn K mainGlobals "BadName" = some (some (.ref c_BadName))) (xt_BadName : PySem.W.typeIn K (.ref c_BadName) = some (.type "type")) (xd_BadName : PySem.W.hasDictIn K c_BadName = true) (xs_BadName : PySem.W.subIn K (.ref c_BadName) (.type "BaseException") = some true)
    (xa_BadPitch : PySem.W.nsIn K mainGlobals "BadPitch" = some (some (.ref c_BadPitch))) (xt_BadPitch : PySem.W.typeIn K (.ref c_BadPitch) = some (.type "type")) (xd_BadPitch : PySem.W.hasDictIn K c_BadPitch = true) (xs_BadPitch : PySem.W.subIn K (.ref c_BadPitch) (.type "BaseException") = some true)
    (xa_BadDeal : PySem.W.nsIn K mainGlobals "BadDeal" = some (some (.ref c_BadDeal))) (xt_BadDeal : PySem.W.typeIn K (.ref c_BadDeal) = some (.type "type")) (xd_BadDeal : PySem.W.hasDictIn K c_BadDeal = true) (xs_BadDeal : PySem.W.subIn K (.ref c_BadDeal) (.type "BaseException") = some true)
    (xa_BadPaper : PySem.W.nsIn K mainGlobals "BadPaper" = some (some (.ref c_BadPaper))) (xt_BadPaper : PySem.W.typeIn K (.ref c_BadPaper) = some (.type "type")) (xd_BadPaper : PySem.W.hasDictIn K c_BadPaper = true) (xs_BadPaper : PySem.W.subIn K (.ref c_BadPaper) (.type "BaseException") = some true)
    (xa_BadLine : PySem.W.nsIn K mainGlobals "BadLine" = some (some (.ref c_BadLine))) (xt_BadLine : PySem.W.typeIn K (.ref c_BadLine) = some (.type "type")) (xd_BadLine : PySem.W.hasDictIn K c_BadLine = true) (xs_BadLine : PySem.W.subIn K (.ref c_BadLine) (.type "BaseException") = some true)
    (xa_BadEvent : PySem.W.nsIn K mainGlobals "BadEvent" = some (some (.ref c_BadEvent))) (xt_BadEvent : PySem.W.typeIn K (.ref c_BadEvent) = some (.type "type")) (xd_BadEvent : PySem.W.hasDictIn K c_BadEvent = true) (xs_BadEvent : PySem.W.subIn K (.ref c_BadEvent) (.type "BaseException") = some true)
    (xa_Twice : PySem.W.nsIn K mainGlobals "Twice" = some (some (.ref c_Twice))) (xt_Twice : PySem.W.typeIn K (.ref c_Twice) = some (.type "type")) (xd_Twice : PySem.W.hasDictIn K c_Twice = true) (xs_Twice : PySem.W.subIn K (.ref c_Twice) (.type "BaseException") = some true)
    (xa_TooMany : PySem.W.nsIn K mainGlobals "TooMany" = some (some (.ref c_TooMany))) (xt_TooMany : PySem.W.typeIn K (.ref c_TooMany) = some (.type "type")) (xd_TooMany : PySem.W.hasDictIn K c_TooMany = true) (xs_TooMany : PySem.W.subIn K (.ref c_TooMany) (.type "BaseException") = some true)
    (xa_BadMend : PySem.W.nsIn K mainGlobals "BadMend" = some (some (.ref c_BadMend))) (xt_BadMend : PySem.W.typeIn K (.ref c_BadMend) = some (.type "type")) (xd_BadMend : PySem.W.hasDictIn K c_BadMend = true) (xs_BadMend : PySem.W.subIn K (.ref c_BadMend) (.type "BaseException") = some true)
    (xa_NoEvent : PySem.W.nsIn K mainGlobals "NoEvent" = some (some (.ref c_NoEvent))) (xt_NoEvent : PySem.W.typeIn K (.ref c_NoEvent) = some (.type "type")) (xd_NoEvent : PySem.W.hasDictIn K c_NoEvent = true) (xs_NoEvent : PySem.W.subIn K (.ref c_NoEvent) (.type "BaseException") = some true)
    (xa_NoDay : PySem.W.nsIn K mainGlobals "NoDay" = some (some (.ref c_NoDay))) (xt_NoDay : PySem.W.typeIn K (.ref c_NoDay) = some (.type "type")) (xd_NoDay : PySem.W.hasDictIn K c_NoDay = true) (xs_NoDay : PySem.W.subIn K (.ref c_NoDay) (.type "BaseException") = some true)
    (xa_BadHistory : PySem.W.nsIn K mainGlobals "BadHistory" = some (some (.ref c_BadHistory))) (xt_BadHistory : PySem.W.typeIn K (.ref c_BadHistory) = some (.type "type")) (xd_BadHistory : PySem.W.hasDictIn K c_BadHistory = true) (xs_BadHistory : PySem.W.subIn K (.ref c_BadHistory) (.type "BaseException") = some true)
    (xa_MarketError : PySem.W.nsIn K mainGlobals "MarketError" = some (some (.ref c_MarketError))) (xt_MarketError : PySem.W.typeIn K (.ref c_MarketError) = some (.type "type")) (xd_MarketError : PySem.W.hasDictIn K c_MarketError = true) (xs_MarketError : PySem.W.subIn K (.ref c_MarketError) (.type "BaseException") = some true)
    (xq_BadLineup : PySem.W.excIn K c_BadLineup [.type "ValueError", .type "Exception", .type "BaseException", .type "object"] "ValueError.__new__" = true)
    (xk_BadLineup : PySem.W.keepIn K (.ref c_BadLineup) = true) (xz_BadLineup : PySem.W.subIn K (.ref c_BadLineup) (.ref c_BadLineup) = some true)
    (xb_BadLineup : PySem.W.findIn K (.ref c_BadLineup) "__getattribute__" = some (some (.builtin "BaseException.__getattribute__"))) (xc_BadLineup : PySem.W.findIn K (.ref c_BadLineup) "__getattr__" = some none) (xe_BadLineup : PySem.W.findIn K (.ref c_BadLineup) "__class__" = some (some (.builtin "object.__class__"))) (xf_BadLineup : PySem.W.specialIn K (.builtin "object.__class__") "__get__" = some (some (.builtin "getset_descriptor.__get__"))) (xg_BadLineup : PySem.W.takesIn K (.builtin "object.__class__") = some true) (xh_BadLineup : PySem.W.mroIn K c_BadLineup (.type "object") = some true)
    (xq_BadRules : PySem.W.excIn K c_BadRules [.type "ValueError", .type "Exception", .type "BaseException", .type "object"] "ValueError.__new__" = true)
    (xk_BadRules : PySem.W.keepIn K (.ref c_BadRules) = true) (xz_BadRules : PySem.W.subIn K (.ref c_BadRules) (.ref c_BadRules) = some true)
    (xb_BadRules : PySem.W.findIn K (.ref c_BadRules) "__getattribute__" = some (some (.builtin "BaseException.__getattribute__"))) (xc_BadRules : PySem.W.findIn K (.ref c_BadRules) "__getattr__" = some none) (xe_BadRules : PySem.W.findIn K (.ref c_BadRules) "__class__" = some (some (.builtin "object.__class__"))) (xf_BadRules : PySem.W.specialIn K (.builtin "object.__class__") "__get__" = some (some (.builtin "getset_descriptor.__get__"))) (xg_BadRules : PySem.W.takesIn K (.builtin "object.__class__") = some true) (xh_BadRules : PySem.W.mroIn K c_BadRules (.type "object") = some true)
    (xw_BadLineup_BadDay : PySem.W.subIn K (.ref c_BadLineup) (.ref c_BadDay) = some false)
    (xw_BadLineup_BadDeal : PySem.W.subIn K (.ref c_BadLineup) (.ref c_BadDeal) = some false)
    (xw_BadLineup_BadEvent : PySem.W.subIn K (.ref c_BadLineup) (.ref c_BadEvent) = some false)
    (xw_BadLineup_BadGround : PySem.W.subIn K (.ref c_BadLineup) (.ref c_BadGround) = some false)
    (xw_BadLineup_BadHistory : PySem.W.subIn K (.ref c_BadLineup) (.ref c_BadHistory) = some false)
    (xw_BadLineup_BadLine : PySem.W.subIn K (.ref c_BadLineup) (.ref c_BadLine) = some false)
    (xw_BadLineup_BadMend : PySem.W.subIn K (.ref c_BadLineup) (.ref c_BadMend) = some false)
    (xw_BadLineup_BadName : PySem.W.subIn K (.ref c_BadLineup) (.ref c_BadName) = some false)
    (xw_BadLineup_BadPaper : PySem.W.subIn K (.ref c_BadLineup) (.ref c_BadPaper) = some false)
    (xw_BadLineup_BadPitch : PySem.W.subIn K (.ref c_BadLineup) (.ref c_BadPitch) = some false)
    (xw_BadLineup_BadRules : PySem.W.subIn K (.ref c_BadLineup) (.ref c_BadRules) = some false)
    (xw_BadLineup_BadTrader : PySem.W.subIn K (.ref c_BadLineup) (.ref c_BadTrader) = some false)
    (xw_BadLineup_MarketError : PySem.W.subIn K (.ref c_BadLineup) (.ref c_MarketError) = some true)
    (xw_BadLineup_NoDay : PySem.W.subIn K (.ref c_BadLineup) (.ref c_NoDay) = some false)
    (xw_BadLineup_NoEvent : PySem.W.subIn K (.ref c_BadLineup) (.ref c_NoEvent) = some false)
    (xw_BadLineup_TooMany : PySem.W.subIn K (.ref c_BadLineup) (.ref c_TooMany) = some false)
    (xw_BadLineup_Twice : PySem.W.subIn K (.ref c_BadLineup) (.ref c_Twice) = some false)
    (xw_BadLineup_ValueError : PySem.W.subIn K (.ref c_BadLineup) (.type "ValueError") = some true)
    (xw_BadRules_BadDay : PySem.W.subIn K (.ref c_BadRules) (.ref c_BadDay) = some false)
    (xw_BadRules_BadDeal : PySem.W.subIn K (.ref c_BadRules) (.ref c_BadDeal) = some false)
    (xw_BadRules_BadEvent : PySem.W.subIn K (.ref c_BadRules) (.ref c_BadEvent) = some false)
    (xw_BadRules_BadGround : PySem.W.subIn K (.ref c_BadRules) (.ref c_BadGround) = some false)
    (xw_BadRules_BadHistory : PySem.W.subIn K (.ref c_BadRules) (.ref c_BadHistory) = some false)
    (xw_BadRules_BadLine : PySem.W.subIn K (.ref c_BadRules) (.ref c_BadLine) = some false)
    (xw_BadRules_BadLineup : PySem.W.subIn K (.ref c_BadRules) (.ref c_BadLineup) = some false)
    (xw_BadRules_BadMend : PySem.W.subIn K (.ref c_BadRules) (.ref c_BadMend) = some false)
    (xw_BadRules_BadName : PySem.W.subIn K (.ref c_BadRules) (.ref c_BadName) = some false)
    (xw_BadRules_BadPaper : PySem.W.subIn K (.ref c_BadRules) (.ref c_BadPaper) = some false)
    (xw_BadRules_BadPitch : PySem.W.subIn K (.ref c_BadRules) (.ref c_BadPitch) = some false)
    (xw_BadRules_BadTrader : PySem.W.subIn K (.ref c_BadRules) (.ref c_BadTrader) = some false)
    (xw_BadRules_MarketError : PySem.W.subIn K (.ref c_BadRules) (.ref c_MarketError) = some true)
    (xw_BadRules_NoDay : PySem.W.subIn K (.ref c_BadRules) (.ref c_NoDay) = some false)
    (xw_BadRules_NoEvent : PySem.W.subIn K (.ref c_BadRules) (.ref c_NoEvent) = some false)
    (xw_BadRules_TooMany : PySem.W.subIn K (.ref c_BadRules) (.ref c_TooMany) = some false)
    (xw_BadRules_Twice : PySem.W.subIn K (.ref c_BadRules) (.ref c_Twice) = some false)
    (xw_BadRules_ValueError : PySem.W.subIn K (.ref c_BadRules) (.type "ValueError") = some true)
    {lc22 lP22 lc24 lP24 : Addr} (tt22 : PySem.W.tabIn K "_law_right" = some (lc22, lP22)) (lm22 : (lP22, lamQ "_law_right") ∈ TBL.T) (lu22 : ∀ p ∈ TBL.T, p.1 = lP22 → p.2 = lamQ "_law_right") (tt24 : PySem.W.tabIn K "_law_far_right" = some (lc24, lP24)) (lm24 : (lP24, lamQ "_law_far_right") ∈ TBL.T) (lu24 : ∀ p ∈ TBL.T, p.1 = lP24 → p.2 = lamQ "_law_far_right")
    : ∃ fd : FuncData, (∀ (s : Shared) (v : Value), BindsTo s fd ⟨[v], []⟩ [("_law_script", v)]) ∧ ∀ base : Heap, K.In base → base.Ns mainGlobals mg → LamX.TabB base mg lc22 lP22 → LamX.TabB base mg lc24 lP24 → FnG l.prog w K mg base CX0 11 fa fd ["_law_script"] (spC K R2i 1 F_law) := by
  have e := hfa.symm.trans (PySem.W.mg_of X G a25)
  cases e
  have Z1 := fun_mk (st := st_is_whole) l1 c1 k1
  have b1 := Z1.binds (ps := ["thing", "least", "most"]) fun _ _ _ _ _ _ us hl => match us, hl with | [_, _, _], _ => rfl
  have h1 := PySem.W.mg_of X G a1
  have Z2 := fun_mk (st := st_need_rules) l2 c2 k2
  have b2 := Z2.binds (ps := ["thing"]) fun _ _ _ _ _ _ us hl => match us, hl with | [_], _ => rfl
  have h2 := PySem.W.mg_of X G a2
  have Z3 := fun_mk (st := st_is_pair) l3 c3 k3
  have b3 := Z3.binds (ps := ["thing"]) fun _ _ _ _ _ _ us hl => match us, hl with | [_], _ => rfl
  have h3 := PySem.W.mg_of X G a3
  have Z4 := fun_mk (st := st_may_follow) l4 c4 k4
  have b4 := Z4.binds (ps := ["one", "other"]) fun _ _ _ _ _ _ us hl => match us, hl with | [_, _], _ => rfl
  have h4 := PySem.W.mg_of X G a4
  have Z5 := fun_mk (st := st_need_line) l5 c5 k5
  have b5 := Z5.binds (ps := ["thing"]) fun _ _ _ _ _ _ us hl => match us, hl with | [_], _ => rfl
  have h5 := PySem.W.mg_of X G a5
  have Z6 := fun_mk (st := st_days_of) l6 c6 k6
  have b6 := Z6.binds (ps := ["pairs", "word"]) fun _ _ _ _ _ _ us hl => match us, hl with | [_, _], _ => rfl
  have h6 := PySem.W.mg_of X G a6
  have Z7 := fun_mk (st := st_Roll___init__) l7 c7 k7
  have b7 := Z7.binds (ps := ["self", "rules"]) fun _ _ _ _ _ _ us hl => match us, hl with | [_, _], _ => rfl
  have Z8 := fun_mk (st := st_Roll_has_standing) l8 c8 k8
  have b8 := Z8.binds (ps := ["self"]) fun _ _ _ _ _ _ us hl => match us, hl with | [_], _ => rfl
  have Z9 := fun_mk (st := st_Roll_emptied) l9 c9 k9
  have b9 := Z9.binds (ps := ["self"]) fun _ _ _ _ _ _ us hl => match us, hl with | [_], _ => rfl
  have Z10 := fun_mk (st := st_Roll_lost_by) l10 c10 k10
  have b10 := Z10.binds (ps := ["self"]) fun _ _ _ _ _ _ us hl => match us, hl with | [_], _ => rfl
  have Z11 := fun_mk (st := st_Roll_came_days) l11 c11 k11
  have b11 := Z11.binds (ps := ["self"]) fun _ _ _ _ _ _ us hl => match us, hl with | [_], _ => rfl
  have Z12 := fun_mk (st := st_Roll_went_on) l12 c12 k12
  have b12 := Z12.binds (ps := ["self", "day", "word"]) fun _ _ _ _ _ _ us hl => match us, hl with | [_, _, _], _ => rfl
  have Z13 := fun_mk (st := st_rows_by) l13 c13 k13
  have b13 := Z13.binds (ps := ["rules", "line"]) fun _ _ _ _ _ _ us hl => match us, hl with | [_, _], _ => rfl
  have h13 := PySem.W.mg_of X G a13
  have Z14 := fun_mk (st := st_law_next) l14 c14 k14
  have b14 := Z14.binds (ps := ["_law_state_here", "_law_many"]) fun _ _ _ _ _ _ us hl => match us, hl with | [_, _], _ => rfl
  have h14 := PySem.W.mg_of X G a14
  have Z15 := fun_mk (st := st_law_state) l15 c15 k15
  have b15 := Z15.binds (ps := ["_law_cells"]) fun _ _ _ _ _ _ us hl => match us, hl with | [_], _ => rfl
  have h15 := PySem.W.mg_of X G a15
  have Z16 := fun_mk (st := st_law_kinds) l16 c16 k16
  have b16 := Z16.binds (ps := ["_law_error"]) fun _ _ _ _ _ _ us hl => match us, hl with | [_], _ => rfl
  have h16 := PySem.W.mg_of X G a16
  have Z17 := fun_mk (st := st_law_said) l17 c17 k17
  have b17 := Z17.binds (ps := ["_law_deed"]) fun _ _ _ _ _ _ us hl => match us, hl with | [_], _ => rfl
  have h17 := PySem.W.mg_of X G a17
  have Z18 := fun_mk (st := st_law_is_line) l18 c18 k18
  have b18 := Z18.binds (ps := ["_law_thing"]) fun _ _ _ _ _ _ us hl => match us, hl with | [_], _ => rfl
  have h18 := PySem.W.mg_of X G a18
  have Z19 := fun_mk (st := st_law_line) l19 c19 k19
  have b19 := Z19.binds (ps := ["_law_state_here", "_law_many"]) fun _ _ _ _ _ _ us hl => match us, hl with | [_, _], _ => rfl
  have h19 := PySem.W.mg_of X G a19
  have Z20 := fun_mk (st := st_law_odd) l20 c20 k20
  have b20 := Z20.binds (ps := ["_law_state_here"]) fun _ _ _ _ _ _ us hl => match us, hl with | [_], _ => rfl
  have h20 := PySem.W.mg_of X G a20
  have Z21 := fun_mk (st := st_law_bent) l21 c21 k21
  have b21 := Z21.binds (ps := ["_law_state_here", "_law_thing"]) fun _ _ _ _ _ _ us hl => match us, hl with | [_, _], _ => rfl
  have h21 := PySem.W.mg_of X G a21
  have Z22 := fun_mk (st := st_law_right) l22 c22 k22
  have b22 := Z22.binds (ps := ["_law_thing"]) fun _ _ _ _ _ _ us hl => match us, hl with | [_], _ => rfl
  have h22 := PySem.W.mg_of X G a22
  have Z23 := fun_mk (st := st_law_bounds_right) l23 c23 k23
  have b23 := Z23.binds (ps := []) fun _ _ _ _ _ _ us hl => match us, hl with | [], _ => rfl
  have h23 := PySem.W.mg_of X G a23
  have Z24 := fun_mk (st := st_law_far_right) l24 c24 k24
  have b24 := Z24.binds (ps := []) fun _ _ _ _ _ _ us hl => match us, hl with | [], _ => rfl
  have h24 := PySem.W.mg_of X G a24
  have Z25 := fun_mk (st := st_law) l25 c25 k25
  have b25 := Z25.binds (ps := ["_law_script"]) fun _ _ _ _ _ _ us hl => match us, hl with | [_], _ => rfl
  have h25 := PySem.W.mg_of X G a25
  have cx_Roll : ClsX K "Roll" o_Roll := ⟨oa_Roll, ⟨ob_Roll, oc_Roll, od_Roll, oe_Roll⟩⟩
  have na_Roll_own_rules : NoAttr K o_Roll "own_rules" := oh_Roll_own_rules
  have na_Roll_pairs : NoAttr K o_Roll "pairs" := oh_Roll_pairs
  have na_Roll_earned_by : NoAttr K o_Roll "earned_by" := oh_Roll_earned_by
  have m_bool := PySem.W.mg_none_of X G z_bool
  have m_isinstance := PySem.W.mg_none_of X G z_isinstance
  have m_int := PySem.W.mg_none_of X G z_int
  have m_tuple := PySem.W.mg_none_of X G z_tuple
  have m_len := PySem.W.mg_none_of X G z_len
  have m_all := PySem.W.mg_none_of X G z_all
  have m_str := PySem.W.mg_none_of X G z_str
  have m_zip := PySem.W.mg_none_of X G z_zip
  have m_max := PySem.W.mg_none_of X G z_max
  have m_abs := PySem.W.mg_none_of X G z_abs
  have m_ValueError := PySem.W.mg_none_of X G z_ValueError
  have m_range := PySem.W.mg_none_of X G z_range
  have m_list := PySem.W.mg_none_of X G z_list
  have m_min := PySem.W.mg_none_of X G z_min
  have m_repr := PySem.W.mg_none_of X G z_repr
  have g_MOST_OF : ∃ t, mg "MOST_OF" = some (.int 30 t) := ⟨_, PySem.W.mg_of X G y_MOST_OF⟩
  have g_MOST_DAY : ∃ t, mg "MOST_DAY" = some (.int 9999 t) := ⟨_, PySem.W.mg_of X G y_MOST_DAY⟩
  have g_MOST_PAIRS : ∃ t, mg "MOST_PAIRS" = some (.int 2000 t) := ⟨_, PySem.W.mg_of X G y_MOST_PAIRS⟩
  have x_BadRules := PySem.W.mg_of X G xa_BadRules
  have x_BadLineup := PySem.W.mg_of X G xa_BadLineup
  have x_BadGround := PySem.W.mg_of X G xa_BadGround
  have x_BadTrader := PySem.W.mg_of X G xa_BadTrader
  have x_BadDay := PySem.W.mg_of X G xa_BadDay
  have x_BadName := PySem.W.mg_of X G xa_BadName
  have x_BadPitch := PySem.W.mg_of X G xa_BadPitch
  have x_BadDeal := PySem.W.mg_of X G xa_BadDeal
  have x_BadPaper := PySem.W.mg_of X G xa_BadPaper
  have x_BadLine := PySem.W.mg_of X G xa_BadLine
  have x_BadEvent := PySem.W.mg_of X G xa_BadEvent
  have x_Twice := PySem.W.mg_of X G xa_Twice
  have x_TooMany := PySem.W.mg_of X G xa_TooMany
  have x_BadMend := PySem.W.mg_of X G xa_BadMend
  have x_NoEvent := PySem.W.mg_of X G xa_NoEvent
  have x_NoDay := PySem.W.mg_of X G xa_NoDay
  have x_BadHistory := PySem.W.mg_of X G xa_BadHistory
  have x_MarketError := PySem.W.mg_of X G xa_MarketError
  have e_BadLineup : ExcT K mg "BadLineup" := ⟨_, _, _, _, _, PySem.F.excBase_ValueError, xq_BadLineup, x_BadLineup, xk_BadLineup, xs_BadLineup, xt_BadLineup⟩
  have ec_BadLineup : ExcC K c_BadLineup := ⟨xb_BadLineup, xc_BadLineup, xs_BadLineup, xd_BadLineup, xe_BadLineup, xf_BadLineup, xg_BadLineup, xh_BadLineup⟩
  have e_BadRules : ExcT K mg "BadRules" := ⟨_, _, _, _, _, PySem.F.excBase_ValueError, xq_BadRules, x_BadRules, xk_BadRules, xs_BadRules, xt_BadRules⟩
  have ec_BadRules : ExcC K c_BadRules := ⟨xb_BadRules, xc_BadRules, xs_BadRules, xd_BadRules, xe_BadRules, xf_BadRules, xg_BadRules, xh_BadRules⟩
  have t_LINE_WORDS : TopTup K mg "LINE_WORDS" ["came", "told", "missed", "given", "struck"] := ⟨_, _, _, _, PySem.W.mg_of X G u_LINE_WORDS, v_LINE_WORDS, rfl, rfl, rfl, r_LINE_WORDS⟩
  have t_ROLL_WORDS : TopTup K mg "ROLL_WORDS" ["came", "told", "missed"] := ⟨_, _, _, _, PySem.W.mg_of X G u_ROLL_WORDS, v_ROLL_WORDS, rfl, rfl, rfl, r_ROLL_WORDS⟩
  refine ⟨PySem.W.fnOf "law" "law" (defArgs st_law) (defBody st_law) (defScope st_law) .none kV25 dc25 pm25 an25 cd25 ct25, fun s v => .of_eq rfl, fun base _ _ tb22 tb24 => ?_⟩
  have o_is_whole := ok_is_whole (TBL := TBL) (P := l.prog) (w := w) (mg := mg) (base := base) Z1  m_bool m_int m_isinstance     
  have c_is_whole : Cl l.prog w K mg base 1 "is_whole" (spP K R2i 3 F_is_whole) := ⟨f1, _, _, o_is_whole, b1, k1, h1⟩
  have o_need_rules := ok_need_rules (TBL := TBL) (P := l.prog) (w := w) (mg := mg) (base := base) Z2 c_is_whole m_all m_isinstance m_len m_tuple g_MOST_OF    e_BadRules
  have cx_need_rules : ClX l.prog w K R2i mg base 2 "need_rules" 1 FX_need_rules := ⟨f2, _, _, o_need_rules, b2, k2, h2⟩
  have c_need_rules : Cl l.prog w K mg base 2 "need_rules" (spP K R2i 1 F_need_rules) := clX_ok cx_need_rules
  have o_is_pair := ok_is_pair (TBL := TBL) (P := l.prog) (w := w) (mg := mg) (base := base) Z3 c_is_whole m_isinstance m_len m_str m_tuple g_MOST_DAY  t_LINE_WORDS  
  have c_is_pair : Cl l.prog w K mg base 2 "is_pair" (spP K R2i 1 F_is_pair) := ⟨f3, _, _, o_is_pair, b3, k3, h3⟩
  have o_may_follow := ok_may_follow (TBL := TBL) (P := l.prog) (w := w) (mg := mg) (base := base) Z4       
  have c_may_follow : Cl l.prog w K mg base 1 "may_follow" (spP K R2i 2 F_may_follow) := ⟨f4, _, _, o_may_follow, b4, k4, h4⟩
  have o_need_line := ok_need_line (TBL := TBL) (P := l.prog) (w := w) (mg := mg) (base := base) Z5 c_is_pair c_may_follow m_all m_isinstance m_len m_tuple m_zip g_MOST_PAIRS    e_BadLineup
  have cx_need_line : ClX l.prog w K R2i mg base 3 "need_line" 1 FX_need_line := ⟨f5, _, _, o_need_line, b5, k5, h5⟩
  have c_need_line : Cl l.prog w K mg base 3 "need_line" (spP K R2i 1 F_need_line) := clX_ok cx_need_line
  have o_days_of := ok_days_of (TBL := TBL) (P := l.prog) (w := w) (mg := mg) (base := base) Z6  m_tuple     
  have c_days_of : Cl l.prog w K mg base 1 "days_of" (spP K R2i 2 F_days_of) := ⟨f6, _, _, o_days_of, b6, k6, h6⟩
  have o_Roll___init__ := ok_Roll___init__ (TBL := TBL) (P := l.prog) (w := w) (mg := mg) (base := base) Z7      cx_Roll na_Roll_own_rules na_Roll_pairs na_Roll_earned_by 
  have ck_Roll : ClK l.prog w K mg base 1 o_Roll "Roll" (spB K R2i "Roll" 2 F_Roll___init__) := ⟨f7, _, _, o_Roll___init__, b7, ⟨of_Roll, a7, i7, og_Roll⟩, PySem.W.mg_of X G oa_Roll⟩
  have o_Roll_has_standing := ok_Roll_has_standing (TBL := TBL) (P := l.prog) (w := w) (mg := mg) (base := base) Z8      cx_Roll na_Roll_earned_by 
  have cm_Roll_has_standing : ClM l.prog w K mg base 1 o_Roll "has_standing" (spP K R2i 1 F_Roll_has_standing) := ⟨f8, _, _, o_Roll_has_standing, b8, ⟨a8, i8, k8⟩⟩
  have o_Roll_emptied := ok_Roll_emptied (TBL := TBL) (P := l.prog) (w := w) (mg := mg) (base := base) Z9      cx_Roll na_Roll_pairs na_Roll_earned_by 
  have cm_Roll_emptied : ClM l.prog w K mg base 1 o_Roll "emptied" (spB K R2i "Roll" 1 F_Roll_emptied) := ⟨f9, _, _, o_Roll_emptied, b9, ⟨a9, i9, k9⟩⟩
  have o_Roll_lost_by := ok_Roll_lost_by (TBL := TBL) (P := l.prog) (w := w) (mg := mg) (base := base) Z10 c_days_of m_len m_max    cx_Roll na_Roll_own_rules na_Roll_pairs na_Roll_earned_by 
  have cm_Roll_lost_by : ClM l.prog w K mg base 2 o_Roll "lost_by" (spP K R2i 1 F_Roll_lost_by) := ⟨f10, _, _, o_Roll_lost_by, b10, ⟨a10, i10, k10⟩⟩
  have o_Roll_came_days := ok_Roll_came_days (TBL := TBL) (P := l.prog) (w := w) (mg := mg) (base := base) Z11 c_days_of m_len m_max    cx_Roll na_Roll_pairs na_Roll_own_rules 
  have cm_Roll_came_days : ClM l.prog w K mg base 2 o_Roll "came_days" (spP K R2i 1 F_Roll_came_days) := ⟨f11, _, _, o_Roll_came_days, b11, ⟨a11, i11, k11⟩⟩
  have o_Roll_went_on := ok_Roll_went_on (TBL := TBL) (P := l.prog) (w := w) (mg := mg) (base := base) Z12  m_len    cx_Roll na_Roll_pairs na_Roll_own_rules na_Roll_earned_by cm_Roll_has_standing cm_Roll_lost_by cm_Roll_emptied cm_Roll_came_days 
  have cm_Roll_went_on : ClM l.prog w K mg base 3 o_Roll "went_on" (spB K R2i "Roll" 3 F_Roll_went_on) := ⟨f12, _, _, o_Roll_went_on, b12, ⟨a12, i12, k12⟩⟩
  have o_rows_by := ok_rows_by (TBL := TBL) (P := l.prog) (w := w) (mg := mg) (base := base) Z13     t_ROLL_WORDS cx_Roll cm_Roll_went_on cm_Roll_has_standing cm_Roll_emptied ck_Roll cx_need_rules cx_need_line e_BadLineup
  have cx_rows_by : ClX l.prog w K R2i mg base 4 "rows_by" 2 FX_rows_by := ⟨f13, _, _, o_rows_by, b13, k13, h13⟩
  have c_rows_by : Cl l.prog w K mg base 4 "rows_by" (spP K R2i 2 F_rows_by) := clX_ok cx_rows_by
  have o_law_next := ok_law_next (TBL := TBL) (P := l.prog) (w := w) (mg := mg) (base := base) Z14  m_abs m_int m_len     
  have c_law_next : Cl l.prog w K mg base 1 "_law_next" (spV K R2i 2 F_law_next) := ⟨f14, _, _, o_law_next, b14, k14, h14⟩
  have o_law_state := ok_law_state (TBL := TBL) (P := l.prog) (w := w) (mg := mg) (base := base) Z15       
  have c_law_state : Cl l.prog w K mg base 1 "_law_state" (spP K R2i 1 F_law_state) := ⟨f15, _, _, o_law_state, b15, k15, h15⟩
  have o_law_kinds := ok_law_kinds (TBL := TBL) (P := l.prog) (w := w) (mg := mg) Z16  m_ValueError m_isinstance     x_BadGround x_BadLineup x_BadRules x_BadTrader x_BadDay x_BadName x_BadPitch x_BadDeal x_BadPaper x_BadLine x_BadEvent x_Twice x_TooMany x_BadMend x_NoEvent x_NoDay x_BadHistory x_MarketError (isTab_cons x_BadLineup ec_BadLineup (kitAny_miss (kitOne_ref xz_BadLineup xd_BadGround xt_BadGround xw_BadLineup_BadGround) DL.kitAny_nil) (isTab_cons x_BadRules ec_BadRules (kitAny_miss (kitOne_ref xz_BadRules xd_BadGround xt_BadGround xw_BadRules_BadGround) DL.kitAny_nil) isTab_nil)) (isTab_cons x_BadLineup ec_BadLineup (kitAny_miss (kitOne_ref xz_BadLineup xd_BadTrader xt_BadTrader xw_BadLineup_BadTrader) DL.kitAny_nil) (isTab_cons x_BadRules ec_BadRules (kitAny_miss (kitOne_ref xz_BadRules xd_BadTrader xt_BadTrader xw_BadRules_BadTrader) DL.kitAny_nil) isTab_nil)) (isTab_cons x_BadLineup ec_BadLineup (kitAny_miss (kitOne_ref xz_BadLineup xd_BadDay xt_BadDay xw_BadLineup_BadDay) DL.kitAny_nil) (isTab_cons x_BadRules ec_BadRules (kitAny_miss (kitOne_ref xz_BadRules xd_BadDay xt_BadDay xw_BadRules_BadDay) DL.kitAny_nil) isTab_nil)) (isTab_cons x_BadLineup ec_BadLineup (kitAny_miss (kitOne_ref xz_BadLineup xd_BadName xt_BadName xw_BadLineup_BadName) DL.kitAny_nil) (isTab_cons x_BadRules ec_BadRules (kitAny_miss (kitOne_ref xz_BadRules xd_BadName xt_BadName xw_BadRules_BadName) DL.kitAny_nil) isTab_nil)) (isTab_cons x_BadLineup ec_BadLineup (kitAny_miss (kitOne_ref xz_BadLineup xd_BadPitch xt_BadPitch xw_BadLineup_BadPitch) DL.kitAny_nil) (isTab_cons x_BadRules ec_BadRules (kitAny_miss (kitOne_ref xz_BadRules xd_BadPitch xt_BadPitch xw_BadRules_BadPitch) DL.kitAny_nil) isTab_nil)) (isTab_cons x_BadLineup ec_BadLineup (kitAny_miss (kitOne_ref xz_BadLineup xd_BadDeal xt_BadDeal xw_BadLineup_BadDeal) DL.kitAny_nil) (isTab_cons x_BadRules ec_BadRules (kitAny_miss (kitOne_ref xz_BadRules xd_BadDeal xt_BadDeal xw_BadRules_BadDeal) DL.kitAny_nil) isTab_nil)) (isTab_cons x_BadLineup ec_BadLineup (kitAny_miss (kitOne_ref xz_BadLineup xd_BadPaper xt_BadPaper xw_BadLineup_BadPaper) DL.kitAny_nil) (isTab_cons x_BadRules ec_BadRules (kitAny_miss (kitOne_ref xz_BadRules xd_BadPaper xt_BadPaper xw_BadRules_BadPaper) DL.kitAny_nil) isTab_nil)) (isTab_cons x_BadLineup ec_BadLineup (kitAny_miss (kitOne_ref xz_BadLineup xd_BadLine xt_BadLine xw_BadLineup_BadLine) DL.kitAny_nil) (isTab_cons x_BadRules ec_BadRules (kitAny_miss (kitOne_ref xz_BadRules xd_BadLine xt_BadLine xw_BadRules_BadLine) DL.kitAny_nil) isTab_nil)) (isTab_cons x_BadLineup ec_BadLineup (kitAny_miss (kitOne_ref xz_BadLineup xd_BadRules xt_BadRules xw_BadLineup_BadRules) DL.kitAny_nil) (isTab_cons x_BadRules ec_BadRules (kitAny_hit (kitOne_ref xz_BadRules xd_BadRules xt_BadRules xz_BadRules)) isTab_nil)) (isTab_cons x_BadLineup ec_BadLineup (kitAny_miss (kitOne_ref xz_BadLineup xd_BadEvent xt_BadEvent xw_BadLineup_BadEvent) DL.kitAny_nil) (isTab_cons x_BadRules ec_BadRules (kitAny_miss (kitOne_ref xz_BadRules xd_BadEvent xt_BadEvent xw_BadRules_BadEvent) DL.kitAny_nil) isTab_nil)) (isTab_cons x_BadLineup ec_BadLineup (kitAny_miss (kitOne_ref xz_BadLineup xd_Twice xt_Twice xw_BadLineup_Twice) DL.kitAny_nil) (isTab_cons x_BadRules ec_BadRules (kitAny_miss (kitOne_ref xz_BadRules xd_Twice xt_Twice xw_BadRules_Twice) DL.kitAny_nil) isTab_nil)) (isTab_cons x_BadLineup ec_BadLineup (kitAny_miss (kitOne_ref xz_BadLineup xd_TooMany xt_TooMany xw_BadLineup_TooMany) DL.kitAny_nil) (isTab_cons x_BadRules ec_BadRules (kitAny_miss (kitOne_ref xz_BadRules xd_TooMany xt_TooMany xw_BadRules_TooMany) DL.kitAny_nil) isTab_nil)) (isTab_cons x_BadLineup ec_BadLineup (kitAny_miss (kitOne_ref xz_BadLineup xd_BadMend xt_BadMend xw_BadLineup_BadMend) DL.kitAny_nil) (isTab_cons x_BadRules ec_BadRules (kitAny_miss (kitOne_ref xz_BadRules xd_BadMend xt_BadMend xw_BadRules_BadMend) DL.kitAny_nil) isTab_nil)) (isTab_cons x_BadLineup ec_BadLineup (kitAny_miss (kitOne_ref xz_BadLineup xd_NoEvent xt_NoEvent xw_BadLineup_NoEvent) DL.kitAny_nil) (isTab_cons x_BadRules ec_BadRules (kitAny_miss (kitOne_ref xz_BadRules xd_NoEvent xt_NoEvent xw_BadRules_NoEvent) DL.kitAny_nil) isTab_nil)) (isTab_cons x_BadLineup ec_BadLineup (kitAny_miss (kitOne_ref xz_BadLineup xd_NoDay xt_NoDay xw_BadLineup_NoDay) DL.kitAny_nil) (isTab_cons x_BadRules ec_BadRules (kitAny_miss (kitOne_ref xz_BadRules xd_NoDay xt_NoDay xw_BadRules_NoDay) DL.kitAny_nil) isTab_nil)) (isTab_cons x_BadLineup ec_BadLineup (kitAny_hit (kitOne_ref xz_BadLineup xd_BadLineup xt_BadLineup xz_BadLineup)) (isTab_cons x_BadRules ec_BadRules (kitAny_miss (kitOne_ref xz_BadRules xd_BadLineup xt_BadLineup xw_BadRules_BadLineup) DL.kitAny_nil) isTab_nil)) (isTab_cons x_BadLineup ec_BadLineup (kitAny_miss (kitOne_ref xz_BadLineup xd_BadHistory xt_BadHistory xw_BadLineup_BadHistory) DL.kitAny_nil) (isTab_cons x_BadRules ec_BadRules (kitAny_miss (kitOne_ref xz_BadRules xd_BadHistory xt_BadHistory xw_BadRules_BadHistory) DL.kitAny_nil) isTab_nil)) (isTab_cons x_BadLineup ec_BadLineup (kitAny_hit (kitOne_ty xz_BadLineup (by decide +kernel) xw_BadLineup_ValueError)) (isTab_cons x_BadRules ec_BadRules (kitAny_hit (kitOne_ty xz_BadRules (by decide +kernel) xw_BadRules_ValueError)) isTab_nil)) (isTab_cons x_BadLineup ec_BadLineup (kitAny_hit (kitOne_ref xz_BadLineup xd_MarketError xt_MarketError xw_BadLineup_MarketError)) (isTab_cons x_BadRules ec_BadRules (kitAny_hit (kitOne_ref xz_BadRules xd_MarketError xt_MarketError xw_BadRules_MarketError)) isTab_nil))
  have ce_law_kinds : ClE l.prog w K mg 1 "_law_kinds" F_law_kinds := ⟨f16, _, _, o_law_kinds, b16, k16, h16⟩
  have o_law_said := ok_law_said (TBL := TBL) (P := l.prog) (w := w) (mg := mg) (base := base) Z17       ce_law_kinds x_MarketError x_BadLineup x_BadRules (fun e h => by rcases List.mem_cons.mp h with rfl | h; exact ⟨_, x_BadLineup, PySem.W.exm_ref xs_MarketError xd_MarketError xt_MarketError xw_BadLineup_MarketError⟩; rcases List.mem_cons.mp h with rfl | h; exact ⟨_, x_BadRules, PySem.W.exm_ref xs_MarketError xd_MarketError xt_MarketError xw_BadRules_MarketError⟩; cases h)
  have cd_law_said : ClD l.prog w K mg base 5 "_law_said" F_law_said := ⟨f17, _, _, o_law_said, b17, k17, h17⟩
  have o_law_is_line := ok_law_is_line (TBL := TBL) (P := l.prog) (w := w) (mg := mg) (base := base) Z18  m_bool m_int m_isinstance m_len m_str m_tuple     
  have c_law_is_line : Cl l.prog w K mg base 1 "_law_is_line" (spP K R2i 1 F_law_is_line) := ⟨f18, _, _, o_law_is_line, b18, k18, h18⟩
  have o_law_line := ok_law_line (TBL := TBL) (P := l.prog) (w := w) (mg := mg) (base := base) Z19 c_law_next m_range m_tuple     
  have c_law_line : Cl l.prog w K mg base 2 "_law_line" (spV K R2i 2 F_law_line) := ⟨f19, _, _, o_law_line, b19, k19, h19⟩
  have o_law_odd := ok_law_odd (TBL := TBL) (P := l.prog) (w := w) (mg := mg) (base := base) Z20 c_law_next m_len     
  have c_law_odd : Cl l.prog w K mg base 2 "_law_odd" (spV K R2i 1 F_law_odd) := ⟨f20, _, _, o_law_odd, b20, k20, h20⟩
  have c_law_bent : Cl l.prog w K mg base 10 "_law_bent" (spV K R2i 2 F_law_bent) := cl_law_bent (P := l.prog) (w := w) (mg := mg) (base := base) Z21 b21 k21 h21 c_law_next c_law_odd m_isinstance m_len m_list m_tuple 7
  have o_law_right := ok_law_right (TBL := TBL) (P := l.prog) (w := w) (mg := mg) (base := base) Z22 c_law_is_line      cx_need_line cx_rows_by cd_law_said (tabIn_code a22 l22 tt22) tb22 lm22 lu22
  have c_law_right : Cl l.prog w K mg base 7 "_law_right" (spP K R2i 1 F_law_right) := ⟨f22, _, _, o_law_right, b22, k22, h22⟩
  have o_law_bounds_right := ok_law_bounds_right (TBL := TBL) (P := l.prog) (w := w) (mg := mg) (base := base) Z23 c_need_line c_law_right m_range m_tuple     
  have c_law_bounds_right : Cl l.prog w K mg base 8 "_law_bounds_right" (spP K R2i 0 F_law_bounds_right) := ⟨f23, _, _, o_law_bounds_right, b23, k23, h23⟩
  have o_law_far_right := ok_law_far_right (TBL := TBL) (P := l.prog) (w := w) (mg := mg) (base := base) Z24  m_range     cx_need_line cd_law_said (tabIn_code a24 l24 tt24) tb24 lm24 lu24
  have c_law_far_right : Cl l.prog w K mg base 7 "_law_far_right" (spP K R2i 0 F_law_far_right) := ⟨f24, _, _, o_law_far_right, b24, k24, h24⟩
  exact ok_law Z25 c_law_state c_law_line c_law_next c_law_bent c_law_right c_law_far_right c_law_bounds_right m_len m_min m_range m_repr     
theorem all_mk2 {l : PySem.W.OpenLaw} {w : World} {K : PySem.W.Frag} {h : Heap} {mg : Str → Option Value} {fa f1 f2 f3 f4 f5 f6 f7 f8 f9 f10 f11 f12 f13 f14 f15 f16 f17 f18 f19 f20 f21 f22 f23 f24 f25 : Addr} (X : K.In h) (G : h.Ns mainGlobals mg) (hfa : mg "law" = some (.ref fa))
    {od1 an1 od2 an2 od3 an3 od4 an4 od5 an5 od6 an6 od7 an7 od8 an8 od9 an9 od10 an10 od11 an11 od12 an12 od13 an13 od14 an14 od15 an15 od16 an16 od17 an17 od18 an18 od19 an19 od20 an20 od21 an21 od22 an22 od23 an23 od24 an24 od25 an25 : Option Addr} {sl1 sl2 sl3 sl4 sl5 sl6 sl7 sl8 sl9 sl10 sl11 sl12 sl13 sl14 sl15 sl16 sl17 sl18 sl19 sl20 sl21 sl22 sl23 sl24 sl25 : Array (Option Value)} {oc1 kV1 dc1 pm1 cd1 ct1 oc2 kV2 dc2 pm2 cd2 ct2 oc3 kV3 dc3 pm3 cd3 ct3 oc4 kV4 dc4 pm4 cd4 ct4 oc5 kV5 dc5 pm5 cd5 ct5 oc6 kV6 dc6 pm6 cd6 ct6 oc7 kV7 dc7 pm7 cd7 ct7 oc8 kV8 dc8 pm8 cd8 ct8 oc9 kV9 dc9 pm9 cd9 ct9 oc10 kV10 dc10 pm10 cd10 ct10 oc11 kV11 dc11 pm11 cd11 ct11 oc12 kV12 dc12 pm12 cd12 ct12 oc13 kV13 dc13 pm13 cd13 ct13 oc14 kV14 dc14 pm14 cd14 ct14 oc15 kV15 dc15 pm15 cd15 ct15 oc16 kV16 dc16 pm16 cd16 ct16 oc17 kV17 dc17 pm17 cd17 ct17 oc18 kV18 dc18 pm18 cd18 ct18 oc19 kV19 dc19 pm19 cd19 ct19 oc20 kV20 dc20 pm20 cd20 ct20 oc21 kV21 dc21 pm21 cd21 ct21 oc22 kV22 dc22 pm22 cd22 ct22 oc23 kV23 dc23 pm23 cd23 ct23 oc24 kV24 dc24 pm24 cd24 ct24 oc25 kV25 dc25 pm25 cd25 ct25 : Value} {t_MOST_OF t_MOST_DAY t_MOST_PAIRS : Tok} {d_LINE_WORDS : Addr} {e_LINE_WORDS : Array Value} {n_LINE_WORDS : Nat} {s_LINE_WORDS : Array (Option Value)} {d_ROLL_WORDS : Addr} {e_ROLL_WORDS : Array Value} {n_ROLL_WORDS : Nat} {s_ROLL_WORDS : Array (Option Value)} {c_BadRules c_BadLineup c_BadGround c_BadTrader c_BadDay c_BadName c_BadPitch c_BadDeal c_BadPaper c_BadLine c_BadEvent c_Twice c_TooMany c_BadMend c_NoEvent c_NoDay c_BadHistory c_MarketError : Addr} {o_Roll : Addr}
    (a1 : PySem.W.nsIn K mainGlobals "is_whole" = some (some (.ref f1)))
    (l1 : K.lookup f1 = some ⟨oc1, od1, .func (PySem.W.fnOf "is_whole" "is_whole" (defArgs st_is_whole) (defBody st_is_whole) (defScope st_is_whole) .none kV1 dc1 pm1 an1 cd1 ct1), sl1⟩) (c1 : PySem.W.codeIn K cd1 "is_whole" = true) (k1 : PySem.W.keepIn K (.ref f1) = true)
    (a2 : PySem.W.nsIn K mainGlobals "need_rules" = some (some (.ref f2)))
    (l2 : K.lookup f2 = some ⟨oc2, od2, .func (PySem.W.fnOf "need_rules" "need_rules" (defArgs st_need_rules) (defBody st_need_rules) (defScope st_need_rules) .none kV2 dc2 pm2 an2 cd2 ct2), sl2⟩) (c2 : PySem.W.codeIn K cd2 "need_rules" = true) (k2 : PySem.W.keepIn K (.ref f2) = true)
    (a3 : PySem.W.nsIn K mainGlobals "is_pair" = some (some (.ref f3)))
    (l3 : K.lookup f3 = some ⟨oc3, od3, .func (PySem.W.fnOf "is_pair" "is_pair" (defArgs st_is_pair) (defBody st_is_pair) (defScope st_is_pair) .none kV3 dc3 pm3 an3 cd3 ct3), sl3⟩) (c3 : PySem.W.codeIn K cd3 "is_pair" = true) (k3 : PySem.W.keepIn K (.ref f3) = true)
    (a4 : PySem.W.nsIn K mainGlobals "may_follow" = some (some (.ref f4)))
    (l4 : K.lookup f4 = some ⟨oc4, od4, .func (PySem.W.fnOf "may_follow" "may_follow" (defArgs st_may_follow) (defBody st_may_follow) (defScope st_may_follow) .none kV4 dc4 pm4 an4 cd4 ct4), sl4⟩) (c4 : PySem.W.codeIn K cd4 "may_follow" = true) (k4 : PySem.W.keepIn K (.ref f4) = true)
    (a5 : PySem.W.nsIn K mainGlobals "need_line" = some (some (.ref f5)))
    (l5 : K.lookup f5 = some ⟨oc5, od5, .func (PySem.W.fnOf "need_line" "need_line" (defArgs st_need_line) (defBody st_need_line) (defScope st_need_line) .none kV5 dc5 pm5 an5 cd5 ct5), sl5⟩) (c5 : PySem.W.codeIn K cd5 "need_line" = true) (k5 : PySem.W.keepIn K (.ref f5) = true)
    (a6 : PySem.W.nsIn K mainGlobals "days_of" = some (some (.ref f6)))
    (l6 : K.lookup f6 = some ⟨oc6, od6, .func (PySem.W.fnOf "days_of" "days_of" (defArgs st_days_of) (defBody st_days_of) (defScope st_days_of) .none kV6 dc6 pm6 an6 cd6 ct6), sl6⟩) (c6 : PySem.W.codeIn K cd6 "days_of" = true) (k6 : PySem.W.keepIn K (.ref f6) = true)
    (a7 : PySem.W.findIn K (.ref o_Roll) "__init__" = some (some (.ref f7))) (i7 : PySem.W.isFn K (.ref f7) = true)
    (l7 : K.lookup f7 = some ⟨oc7, od7, .func (PySem.W.fnOf "__init__" "Roll.__init__" (defArgs st_Roll___init__) (defBody st_Roll___init__) (defScope st_Roll___init__) .none kV7 dc7 pm7 an7 cd7 ct7), sl7⟩) (c7 : PySem.W.codeIn K cd7 "Roll.__init__" = true) (k7 : PySem.W.keepIn K (.ref f7) = true)
    (a8 : PySem.W.findIn K (.ref o_Roll) "has_standing" = some (some (.ref f8))) (i8 : PySem.W.isFn K (.ref f8) = true)
    (l8 : K.lookup f8 = some ⟨oc8, od8, .func (PySem.W.fnOf "has_standing" "Roll.has_standing" (defArgs st_Roll_has_standing) (defBody st_Roll_has_standing) (defScope st_Roll_has_standing) .none kV8 dc8 pm8 an8 cd8 ct8), sl8⟩) (c8 : PySem.W.codeIn K cd8 "Roll.has_standing" = true) (k8 : PySem.W.keepIn K (.ref f8) = true)
    (a9 : PySem.W.findIn K (.ref o_Roll) "emptied" = some (some (.ref f9))) (i9 : PySem.W.isFn K (.ref f9) = true)
    (l9 : K.lookup f9 = some ⟨oc9, od9, .func (PySem.W.fnOf "emptied" "Roll.emptied" (defArgs st_Roll_emptied) (defBody st_Roll_emptied) (defScope st_Roll_emptied) .none kV9 dc9 pm9 an9 cd9 ct9), sl9⟩) (c9 : PySem.W.codeIn K cd9 "Roll.emptied" = true) (k9 : PySem.W.keepIn K (.ref f9) = true)
    (a10 : PySem.W.findIn K (.ref o_Roll) "lost_by" = some (some (.ref f10))) (i10 : PySem.W.isFn K (.ref f10) = true)
    (l10 : K.lookup f10 = some ⟨oc10, od10, .func (PySem.W.fnOf "lost_by" "Roll.lost_by" (defArgs st_Roll_lost_by) (defBody st_Roll_lost_by) (defScope st_Roll_lost_by) .none kV10 dc10 pm10 an10 cd10 ct10), sl10⟩) (c10 : PySem.W.codeIn K cd10 "Roll.lost_by" = true) (k10 : PySem.W.keepIn K (.ref f10) = true)
    (a11 : PySem.W.findIn K (.ref o_Roll) "came_days" = some (some (.ref f11))) (i11 : PySem.W.isFn K (.ref f11) = true)
    (l11 : K.lookup f11 = some ⟨oc11, od11, .func (PySem.W.fnOf "came_days" "Roll.came_days" (defArgs st_Roll_came_days) (defBody st_Roll_came_days) (defScope st_Roll_came_days) .none kV11 dc11 pm11 an11 cd11 ct11), sl11⟩) (c11 : PySem.W.codeIn K cd11 "Roll.came_days" = true) (k11 : PySem.W.keepIn K (.ref f11) = true)
    (a12 : PySem.W.findIn K (.ref o_Roll) "went_on" = some (some (.ref f12))) (i12 : PySem.W.isFn K (.ref f12) = true)
    (l12 : K.lookup f12 = some ⟨oc12, od12, .func (PySem.W.fnOf "went_on" "Roll.went_on" (defArgs st_Roll_went_on) (defBody st_Roll_went_on) (defScope st_Roll_went_on) .none kV12 dc12 pm12 an12 cd12 ct12), sl12⟩) (c12 : PySem.W.codeIn K cd12 "Roll.went_on" = true) (k12 : PySem.W.keepIn K (.ref f12) = true)
    (a13 : PySem.W.nsIn K mainGlobals "rows_by" = some (some (.ref f13)))
    (l13 : K.lookup f13 = some ⟨oc13, od13, .func (PySem.W.fnOf "rows_by" "rows_by" (defArgs st_rows_by) (defBody st_rows_by) (defScope st_rows_by) .none kV13 dc13 pm13 an13 cd13 ct13), sl13⟩) (c13 : PySem.W.codeIn K cd13 "rows_by" = true) (k13 : PySem.W.keepIn K (.ref f13) = true)
    (a14 : PySem.W.nsIn K mainGlobals "_law_next" = some (some (.ref f14)))
    (l14 : K.lookup f14 = some ⟨oc14, od14, .func (PySem.W.fnOf "_law_next" "_law_next" (defArgs st_law_next) (defBody st_law_next) (defScope st_law_next) .none kV14 dc14 pm14 an14 cd14 ct14), sl14⟩) (c14 : PySem.W.codeIn K cd14 "_law_next" = true) (k14 : PySem.W.keepIn K (.ref f14) = true)
    (a15 : PySem.W.nsIn K mainGlobals "_law_state" = some (some (.ref f15)))
    (l15 : K.lookup f15 = some ⟨oc15, od15, .func (PySem.W.fnOf "_law_state" "_law_state" (defArgs st_law_state) (defBody st_law_state) (defScope st_law_state) .none kV15 dc15 pm15 an15 cd15 ct15), sl15⟩) (c15 : PySem.W.codeIn K cd15 "_law_state" = true) (k15 : PySem.W.keepIn K (.ref f15) = true)
    (a16 : PySem.W.nsIn K mainGlobals "_law_kinds" = some (some (.ref f16)))
    (l16 : K.lookup f16 = some ⟨oc16, od16, .func (PySem.W.fnOf "_law_kinds" "_law_kinds" (defArgs st_law_kinds) (defBody st_law_kinds) (defScope st_law_kinds) .none kV16 dc16 pm16 an16 cd16 ct16), sl16⟩) (c16 : PySem.W.codeIn K cd16 "_law_kinds" = true) (k16 : PySem.W.keepIn K (.ref f16) = true)
    (a17 : PySem.W.nsIn K mainGlobals "_law_said" = some (some (.ref f17)))
    (l17 : K.lookup f17 = some ⟨oc17, od17, .func (PySem.W.fnOf "_law_said" "_law_said" (defArgs st_law_said) (defBody st_law_said) (defScope st_law_said) .none kV17 dc17 pm17 an17 cd17 ct17), sl17⟩) (c17 : PySem.W.codeIn K cd17 "_law_said" = true) (k17 : PySem.W.keepIn K (.ref f17) = true)
    (a18 : PySem.W.nsIn K mainGlobals "_law_is_line" = some (some (.ref f18)))
    (l18 : K.lookup f18 = some ⟨oc18, od18, .func (PySem.W.fnOf "_law_is_line" "_law_is_line" (defArgs st_law_is_line) (defBody st_law_is_line) (defScope st_law_is_line) .none kV18 dc18 pm18 an18 cd18 ct18), sl18⟩) (c18 : PySem.W.codeIn K cd18 "_law_is_line" = true) (k18 : PySem.W.keepIn K (.ref f18) = true)
    (a19 : PySem.W.nsIn K mainGlobals "_law_line" = some (some (.ref f19)))
    (l19 : K.lookup f19 = some ⟨oc19, od19, .func (PySem.W.fnOf "_law_line" "_law_line" (defArgs st_law_line) (defBody st_law_line) (defScope st_law_line) .none kV19 dc19 pm19 an19 cd19 ct19), sl19⟩) (c19 : PySem.W.codeIn K cd19 "_law_line" = true) (k19 : PySem.W.keepIn K (.ref f19) = true)
    (a20 : PySem.W.nsIn K mainGlobals "_law_odd" = some (some (.ref f20)))
    (l20 : K.lookup f20 = some ⟨oc20, od20, .func (PySem.W.fnOf "_law_odd" "_law_odd" (defArgs st_law_odd) (defBody st_law_odd) (defScope st_law_odd) .none kV20 dc20 pm20 an20 cd20 ct20), sl20⟩) (c20 : PySem.W.codeIn K cd20 "_law_odd" = true) (k20 : PySem.W.keepIn K (.ref f20) = true)
    (a21 : PySem.W.nsIn K mainGlobals "_law_bent" = some (some (.ref f21)))
    (l21 : K.lookup f21 = some ⟨oc21, od21, .func (PySem.W.fnOf "_law_bent" "_law_bent" (defArgs st_law_bent) (defBody st_law_bent) (defScope st_law_bent) .none kV21 dc21 pm21 an21 cd21 ct21), sl21⟩) (c21 : PySem.W.codeIn K cd21 "_law_bent" = true) (k21 : PySem.W.keepIn K (.ref f21) = true)
    (a22 : PySem.W.nsIn K mainGlobals "_law_right" = some (some (.ref f22)))
    (l22 : K.lookup f22 = some ⟨oc22, od22, .func (PySem.W.fnOf "_law_right" "_law_right" (defArgs st_law_right) (defBody st_law_right) (defScope st_law_right) .none kV22 dc22 pm22 an22 cd22 ct22), sl22⟩) (c22 : PySem.W.codeIn K cd22 "_law_right" = true) (k22 : PySem.W.keepIn K (.ref f22) = true)
    (a23 : PySem.W.nsIn K mainGlobals "_law_bounds_right" = some (some (.ref f23)))
    (l23 : K.lookup f23 = some ⟨oc23, od23, .func (PySem.W.fnOf "_law_bounds_right" "_law_bounds_right" (defArgs st_law_bounds_right) (defBody st_law_bounds_right) (defScope st_law_bounds_right) .none kV23 dc23 pm23 an23 cd23 ct23), sl23⟩) (c23 : PySem.W.codeIn K cd23 "_law_bounds_right" = true) (k23 : PySem.W.keepIn K (.ref f23) = true)
    (a24 : PySem.W.nsIn K mainGlobals "_law_far_right" = some (some (.ref f24)))
    (l24 : K.lookup f24 = some ⟨oc24, od24, .func (PySem.W.fnOf "_law_far_right" "_law_far_right" (defArgs st_law_far_right) (defBody st_law_far_right) (defScope st_law_far_right) .none kV24 dc24 pm24 an24 cd24 ct24), sl24⟩) (c24 : PySem.W.codeIn K cd24 "_law_far_right" = true) (k24 : PySem.W.keepIn K (.ref f24) = true)
    (a25 : PySem.W.nsIn K mainGlobals "law" = some (some (.ref f25)))
    (l25 : K.lookup f25 = some ⟨oc25, od25, .func (PySem.W.fnOf "law" "law" (defArgs st_law) (defBody st_law) (defScope st_law) .none kV25 dc25 pm25 an25 cd25 ct25), sl25⟩) (c25 : PySem.W.codeIn K cd25 "law" = true) (k25 : PySem.W.keepIn K (.ref f25) = true)
    (oa_Roll : PySem.W.nsIn K mainGlobals "Roll" = some (some (.ref o_Roll))) (ob_Roll : PySem.W.plainGet K o_Roll Str.empty = true) (oc_Roll : PySem.W.hasDictIn K o_Roll = true) (od_Roll : PySem.W.plainOver K o_Roll = true) (oe_Roll : PySem.W.findIn K (.ref o_Roll) "__setattr__" = some (some (.builtin "object.__setattr__"))) (of_Roll : PySem.W.makesIn K o_Roll = true) (og_Roll : PySem.W.keepIn K (.ref o_Roll) = true)
    (oh_Roll_own_rules : PySem.W.findIn K (.ref o_Roll) "own_rules" = some none)
    (oh_Roll_pairs : PySem.W.findIn K (.ref o_Roll) "pairs" = some none)
    (oh_Roll_earned_by : PySem.W.findIn K (.ref o_Roll) "earned_by" = some none)
    (z_bool : PySem.W.nsIn K mainGlobals "bool" = some none)
    (z_isinstance : PySem.W.nsIn K mainGlobals "isinstance" = some none)
    (z_int : PySem.W.nsIn K mainGlobals "int" = some none)
    (z_tuple : PySem.W.nsIn K mainGlobals "tuple" = some none)
    (z_len : PySem.W.nsIn K mainGlobals "len" = some none)
    (z_all : PySem.W.nsIn K mainGlobals "all" = some none)
    (z_str : PySem.W.nsIn K mainGlobals "str" = some none)
    (z_zip : PySem.W.nsIn K mainGlobals "zip" = some none)
    (z_max : PySem.W.nsIn K mainGlobals "max" = some none)
    (z_abs : PySem.W.nsIn K mainGlobals "abs" = some none)
    (z_ValueError : PySem.W.nsIn K mainGlobals "ValueError" = some none)
    (z_range : PySem.W.nsIn K mainGlobals "range" = some none)
    (z_list : PySem.W.nsIn K mainGlobals "list" = some none)
    (z_min : PySem.W.nsIn K mainGlobals "min" = some none)
    (z_repr : PySem.W.nsIn K mainGlobals "repr" = some none)
    (y_MOST_OF : PySem.W.nsIn K mainGlobals "MOST_OF" = some (some (.int 30 t_MOST_OF)))
    (y_MOST_DAY : PySem.W.nsIn K mainGlobals "MOST_DAY" = some (some (.int 9999 t_MOST_DAY)))
    (y_MOST_PAIRS : PySem.W.nsIn K mainGlobals "MOST_PAIRS" = some (some (.int 2000 t_MOST_PAIRS)))
    (u_LINE_WORDS : PySem.W.nsIn K mainGlobals "LINE_WORDS" = some (some (.ref d_LINE_WORDS))) (v_LINE_WORDS : K.lookup d_LINE_WORDS = some ⟨.type "tuple", none, .seq e_LINE_WORDS n_LINE_WORDS, s_LINE_WORDS⟩) (r_LINE_WORDS : Vals ((["came", "told", "missed", "given", "struck"] : List Str).map V.str) e_LINE_WORDS.toList)
    (u_ROLL_WORDS : PySem.W.nsIn K mainGlobals "ROLL_WORDS" = some (some (.ref d_ROLL_WORDS))) (v_ROLL_WORDS : K.lookup d_ROLL_WORDS = some ⟨.type "tuple", none, .seq e_ROLL_WORDS n_ROLL_WORDS, s_ROLL_WORDS⟩) (r_ROLL_WORDS : Vals ((["came", "told", "missed"] : List Str).map V.str) e_ROLL_WORDS.toList)
    (xa_BadRules : PySem.W.nsIn K mainGlobals "BadRules" = some (some (.ref c_BadRules))) (xt_BadRules : PySem.W.typeIn K (.ref c_BadRules) = some (.type "type")) (xd_BadRules : PySem.W.hasDictIn K c_BadRules = true) (xs_BadRules : PySem.W.subIn K (.ref c_BadRules) (.type "BaseException") = some true)
    (xa_BadLineup : PySem.W.nsIn K mainGlobals "BadLineup" = some (some (.ref c_BadLineup))) (xt_BadLineup : PySem.W.typeIn K (.ref c_BadLineup) = some (.type "type")) (xd_BadLineup : PySem.W.hasDictIn K c_BadLineup = true) (xs_BadLineup : PySem.W.subIn K (.ref c_BadLineup) (.type "BaseException") = some true)
    (xa_BadGround : PySem.W.nsIn K mainGlobals "BadGround" = some (some (.ref c_BadGround))) (xt_BadGround : PySem.W.typeIn K (.ref c_BadGround) = some (.type "type")) (xd_BadGround : PySem.W.hasDictIn K c_BadGround = true) (xs_BadGround : PySem.W.subIn K (.ref c_BadGround) (.type "BaseException") = some true)
    (xa_BadTrader : PySem.W.nsIn K mainGlobals "BadTrader" = some (some (.ref c_BadTrader))) (xt_BadTrader : PySem.W.typeIn K (.ref c_BadTrader) = some (.type "type")) (xd_BadTrader : PySem.W.hasDictIn K c_BadTrader = true) (xs_BadTrader : PySem.W.subIn K (.ref c_BadTrader) (.type "BaseException") = some true)
    (xa_BadDay : PySem.W.nsIn K mainGlobals "BadDay" = some (some (.ref c_BadDay))) (xt_BadDay : PySem.W.typeIn K (.ref c_BadDay) = some (.type "type")) (xd_BadDay : PySem.W.hasDictIn K c_BadDay = true) (xs_BadDay : PySem.W.subIn K (.ref c_BadDay) (.type "BaseException") = some true)
    (xa_BadName : PySem.W.nsIn K mainGlobals "BadName" = some (some (.ref c_BadName))) (xt_BadName : PySem.W.typeIn K (.ref c_BadName) = some (.type "type")) (xd_BadName : PySem.W.hasDictIn K c_BadName = true) (xs_BadName : PySem.W.subIn K (.ref c_BadName) (.type "BaseException") = some true)
    (xa_BadPitch : PySem.W.nsIn K mainGlobals "BadPitch" = some (some (.ref c_BadPitch))) (xt_BadPitch : PySem.W.typeIn K (.ref c_BadPitch) = some (.type "type")) (xd_BadPitch : PySem.W.hasDictIn K c_BadPitch = true) (xs_BadPitch : PySem.W.subIn K (.ref c_BadPitch) (.type "BaseException") = some true)
    (xa_BadDeal : PySem.W.nsIn K mainGlobals "BadDeal" = some (some (.ref c_BadDeal))) (xt_BadDeal : PySem.W.typeIn K (.ref c_BadDeal) = some (.type "type")) (xd_BadDeal : PySem.W.hasDictIn K c_BadDeal = true) (xs_BadDeal : PySem.W.subIn K (.ref c_BadDeal) (.type "BaseException") = some true)
    (xa_BadPaper : PySem.W.nsIn K mainGlobals "BadPaper" = some (some (.ref c_BadPaper))) (xt_BadPaper : PySem.W.typeIn K (.ref c_BadPaper) = some (.type "type")) (xd_BadPaper : PySem.W.hasDictIn K c_BadPaper = true) (xs_BadPaper : PySem.W.subIn K (.ref c_BadPaper) (.type "BaseException") = some true)
    (xa_BadLine : PySem.W.nsIn K mainGlobals "BadLine" = some (some (.ref c_BadLine))) (xt_BadLine : PySem.W.typeIn K (.ref c_BadLine) = some (.type "type")) (xd_BadLine : PySem.W.hasDictIn K c_BadLine = true) (xs_BadLine : PySem.W.subIn K (.ref c_BadLine) (.type "BaseException") = some true)
    (xa_BadEvent : PySem.W.nsIn K mainGlobals "BadEvent" = some (some (.ref c_BadEvent))) (xt_BadEvent : PySem.W.typeIn K (.ref c_BadEvent) = some (.type "type")) (xd_BadEvent : PySem.W.hasDictIn K c_BadEvent = true) (xs_BadEvent : PySem.W.subIn K (.ref c_BadEvent) (.type "BaseException") = some true)
    (xa_Twice : PySem.W.nsIn K mainGlobals "Twice" = some (some (.ref c_Twice))) (xt_Twice : PySem.W.typeIn K (.ref c_Twice) = some (.type "type")) (xd_Twice : PySem.W.hasDictIn K c_Twice = true) (xs_Twice : PySem.W.subIn K (.ref c_Twice) (.type "BaseException") = some true)
    (xa_TooMany : PySem.W.nsIn K mainGlobals "TooMany" = some (some (.ref c_TooMany))) (xt_TooMany : PySem.W.typeIn K (.ref c_TooMany) = some (.type "type")) (xd_TooMany : PySem.W.hasDictIn K c_TooMany = true) (xs_TooMany : PySem.W.subIn K (.ref c_TooMany) (.type "BaseException") = some true)
    (xa_BadMend : PySem.W.nsIn K mainGlobals "BadMend" = some (some (.ref c_BadMend))) (xt_BadMend : PySem.W.typeIn K (.ref c_BadMend) = some (.type "type")) (xd_BadMend : PySem.W.hasDictIn K c_BadMend = true) (xs_BadMend : PySem.W.subIn K (.ref c_BadMend) (.type "BaseException") = some true)
    (xa_NoEvent : PySem.W.nsIn K mainGlobals "NoEvent" = some (some (.ref c_NoEvent))) (xt_NoEvent : PySem.W.typeIn K (.ref c_NoEvent) = some (.type "type")) (xd_NoEvent : PySem.W.hasDictIn K c_NoEvent = true) (xs_NoEvent : PySem.W.subIn K (.ref c_NoEvent) (.type "BaseException") = some true)
    (xa_NoDay : PySem.W.nsIn K mainGlobals "NoDay" = some (some (.ref c_NoDay))) (xt_NoDay : PySem.W.typeIn K (.ref c_NoDay) = some (.type "type")) (xd_NoDay : PySem.W.hasDictIn K c_NoDay = true) (xs_NoDay : PySem.W.subIn K (.ref c_NoDay) (.type "BaseException") = some true)
    (xa_BadHistory : PySem.W.nsIn K mainGlobals "BadHistory" = some (some (.ref c_BadHistory))) (xt_BadHistory : PySem.W.typeIn K (.ref c_BadHistory) = some (.type "type")) (xd_BadHistory : PySem.W.hasDictIn K c_BadHistory = true) (xs_BadHistory : PySem.W.subIn K (.ref c_BadHistory) (.type "BaseException") = some true)
    (xa_MarketError : PySem.W.nsIn K mainGlobals "MarketError" = some (some (.ref c_MarketError))) (xt_MarketError : PySem.W.typeIn K (.ref c_MarketError) = some (.type "type")) (xd_MarketError : PySem.W.hasDictIn K c_MarketError = true) (xs_MarketError : PySem.W.subIn K (.ref c_MarketError) (.type "BaseException") = some true)
    (xq_BadLineup : PySem.W.excIn K c_BadLineup [.type "ValueError", .type "Exception", .type "BaseException", .type "object"] "ValueError.__new__" = true)
    (xk_BadLineup : PySem.W.keepIn K (.ref c_BadLineup) = true) (xz_BadLineup : PySem.W.subIn K (.ref c_BadLineup) (.ref c_BadLineup) = some true)
    (xb_BadLineup : PySem.W.findIn K (.ref c_BadLineup) "__getattribute__" = some (some (.builtin "BaseException.__getattribute__"))) (xc_BadLineup : PySem.W.findIn K (.ref c_BadLineup) "__getattr__" = some none) (xe_BadLineup : PySem.W.findIn K (.ref c_BadLineup) "__class__" = some (some (.builtin "object.__class__"))) (xf_BadLineup : PySem.W.specialIn K (.builtin "object.__class__") "__get__" = some (some (.builtin "getset_descriptor.__get__"))) (xg_BadLineup : PySem.W.takesIn K (.builtin "object.__class__") = some true) (xh_BadLineup : PySem.W.mroIn K c_BadLineup (.type "object") = some true)
    (xq_BadRules : PySem.W.excIn K c_BadRules [.type "ValueError", .type "Exception", .type "BaseException", .type "object"] "ValueError.__new__" = true)
    (xk_BadRules : PySem.W.keepIn K (.ref c_BadRules) = true) (xz_BadRules : PySem.W.subIn K (.ref c_BadRules) (.ref c_BadRules) = some true)
    (xb_BadRules : PySem.W.findIn K (.ref c_BadRules) "__getattribute__" = some (some (.builtin "BaseException.__getattribute__"))) (xc_BadRules : PySem.W.findIn K (.ref c_BadRules) "__getattr__" = some none) (xe_BadRules : PySem.W.findIn K (.ref c_BadRules) "__class__" = some (some (.builtin "object.__class__"))) (xf_BadRules : PySem.W.specialIn K (.builtin "object.__class__") "__get__" = some (some (.builtin "getset_descriptor.__get__"))) (xg_BadRules : PySem.W.takesIn K (.builtin "object.__class__") = some true) (xh_BadRules : PySem.W.mroIn K c_BadRules (.type "object") = some true)
    (xw_BadLineup_BadDay : PySem.W.subIn K (.ref c_BadLineup) (.ref c_BadDay) = some false)
    (xw_BadLineup_BadDeal : PySem.W.subIn K (.ref c_BadLineup) (.ref c_BadDeal) = some false)
    (xw_BadLineup_BadEvent : PySem.W.subIn K (.ref c_BadLineup) (.ref c_BadEvent) = some false)
    (xw_BadLineup_BadGround : PySem.W.subIn K (.ref c_BadLineup) (.ref c_BadGround) = some false)
    (xw_BadLineup_BadHistory : PySem.W.subIn K (.ref c_BadLineup) (.ref c_BadHistory) = some false)
    (xw_BadLineup_BadLine : PySem.W.subIn K (.ref c_BadLineup) (.ref c_BadLine) = some false)
    (xw_BadLineup_BadMend : PySem.W.subIn K (.ref c_BadLineup) (.ref c_BadMend) = some false)
    (xw_BadLineup_BadName : PySem.W.subIn K (.ref c_BadLineup) (.ref c_BadName) = some false)
    (xw_BadLineup_BadPaper : PySem.W.subIn K (.ref c_BadLineup) (.ref c_BadPaper) = some false)
    (xw_BadLineup_BadPitch : PySem.W.subIn K (.ref c_BadLineup) (.ref c_BadPitch) = some false)
    (xw_BadLineup_BadRules : PySem.W.subIn K (.ref c_BadLineup) (.ref c_BadRules) = some false)
    (xw_BadLineup_BadTrader : PySem.W.subIn K (.ref c_BadLineup) (.ref c_BadTrader) = some false)
    (xw_BadLineup_MarketError : PySem.W.subIn K (.ref c_BadLineup) (.ref c_MarketError) = some true)
    (xw_BadLineup_NoDay : PySem.W.subIn K (.ref c_BadLineup) (.ref c_NoDay) = some false)
    (xw_BadLineup_NoEvent : PySem.W.subIn K (.ref c_BadLineup) (.ref c_NoEvent) = some false)
    (xw_BadLineup_TooMany : PySem.W.subIn K (.ref c_BadLineup) (.ref c_TooMany) = some false)
    (xw_BadLineup_Twice : PySem.W.subIn K (.ref c_BadLineup) (.ref c_Twice) = some false)
    (xw_BadLineup_ValueError : PySem.W.subIn K (.ref c_BadLineup) (.type "ValueError") = some true)
    (xw_BadRules_BadDay : PySem.W.subIn K (.ref c_BadRules) (.ref c_BadDay) = some false)
    (xw_BadRules_BadDeal : PySem.W.subIn K (.ref c_BadRules) (.ref c_BadDeal) = some false)
    (xw_BadRules_BadEvent : PySem.W.subIn K (.ref c_BadRules) (.ref c_BadEvent) = some false)
    (xw_BadRules_BadGround : PySem.W.subIn K (.ref c_BadRules) (.ref c_BadGround) = some false)
    (xw_BadRules_BadHistory : PySem.W.subIn K (.ref c_BadRules) (.ref c_BadHistory) = some false)
    (xw_BadRules_BadLine : PySem.W.subIn K (.ref c_BadRules) (.ref c_BadLine) = some false)
    (xw_BadRules_BadLineup : PySem.W.subIn K (.ref c_BadRules) (.ref c_BadLineup) = some false)
    (xw_BadRules_BadMend : PySem.W.subIn K (.ref c_BadRules) (.ref c_BadMend) = some false)
    (xw_BadRules_BadName : PySem.W.subIn K (.ref c_BadRules) (.ref c_BadName) = some false)
    (xw_BadRules_BadPaper : PySem.W.subIn K (.ref c_BadRules) (.ref c_BadPaper) = some false)
    (xw_BadRules_BadPitch : PySem.W.subIn K (.ref c_BadRules) (.ref c_BadPitch) = some false)
    (xw_BadRules_BadTrader : PySem.W.subIn K (.ref c_BadRules) (.ref c_BadTrader) = some false)
    (xw_BadRules_MarketError : PySem.W.subIn K (.ref c_BadRules) (.ref c_MarketError) = some true)
    (xw_BadRules_NoDay : PySem.W.subIn K (.ref c_BadRules) (.ref c_NoDay) = some false)
    (xw_BadRules_NoEvent : PySem.W.subIn K (.ref c_BadRules) (.ref c_NoEvent) = some false)
    (xw_BadRules_TooMany : PySem.W.subIn K (.ref c_BadRules) (.ref c_TooMany) = some false)
    (xw_BadRules_Twice : PySem.W.subIn K (.ref c_BadRules) (.ref c_Twice) = some false)
    (xw_BadRules_ValueError : PySem.W.subIn K (.ref c_BadRules) (.type "ValueError") = some true)
    {lc22 lP22 lc24 lP24 : Addr} {xa22 xa24 : Value} {xb22 xb24 : Option Addr} {xs22 xs24 : Array (Option Value)} {xv22 xv24 : Array Value} {q : Program} (TA : DL.TabsAt K q h) (ts22 : cd22 = .ref lc22) (tm22 : K.lookup lc22 = some ⟨xa22, xb22, .fields xv22, xs22⟩) (tv22 : xv22[11]? = some (.ref lP22)) (tn22 : K.lookup lP22 = none) (tr22 : ((recsOf q).any fun e => e.name == ("_law_right" : Str)) = true) (ts24 : cd24 = .ref lc24) (tm24 : K.lookup lc24 = some ⟨xa24, xb24, .fields xv24, xs24⟩) (tv24 : xv24[11]? = some (.ref lP24)) (tn24 : K.lookup lP24 = none) (tr24 : ((recsOf q).any fun e => e.name == ("_law_far_right" : Str)) = true) (te22_24 : lP22 ≠ lP24) (te24_22 : lP24 ≠ lP22)
    : ∃ (fd : FuncData) (cs : List (Addr × Addr)) (sp : Sp), (∀ p ∈ cs, h.get? p.2 = some { cls := .none, data := .fields #[] }) ∧ (∀ p ∈ cs, K.lookup p.2 = none) ∧ (∀ p ∈ cs, PySem.W.CodeHd h p.1 p.2) ∧ (∀ (s : Shared) (u : Value), BindsTo s fd ⟨[u], []⟩ [("_law_script", u)]) ∧ (∀ base : Heap, K.In base → base.Ns mainGlobals mg → (∀ p ∈ cs, LamX.TabB base mg p.1 p.2) → FnG l.prog w K mg base CX0 11 fa fd ["_law_script"] sp) ∧ ∀ (H : Hp) (a : Addr) (ns : List Int), ns.length ≤ 63 → (∀ p ∈ cs, H p.2 = some (.tbl #[])) → SqL K H a (ns.map V.int) → sp [.ref a] H (fun v _ => v = .bl true) E0 := by
  have tt22 : PySem.W.tabIn K "_law_right" = some (lc22, lP22) := tabIn_mk a22 l22 ts22 tm22 tv22
  have tt24 : PySem.W.tabIn K "_law_far_right" = some (lc24, lP24) := tabIn_mk a24 l24 ts24 tm24 tv24
  obtain ⟨fd, hb, hF⟩ := all_mk (TBL := ⟨[(lP22, lamQ "_law_right"), (lP24, lamQ "_law_far_right")]⟩) (l := l) (w := w) X G hfa a1 l1 c1 k1 a2 l2 c2 k2 a3 l3 c3 k3 a4 l4 c4 k4 a5 l5 c5 k5 a6 l6 c6 k6 a7 i7 l7 c7 k7 a8 i8 l8 c8 k8 a9 i9 l9 c9 k9 a10 i10 l10 c10 k10 a11 i11 l11 c11 k11 a12 i12 l12 c12 k12 a13 l13 c13 k13 a14 l14 c14 k14 a15 l15 c15 k15 a16 l16 c16 k16 a17 l17 c17 k17 a18 l18 c18 k18 a19 l19 c19 k19 a20 l20 c20 k20 a21 l21 c21 k21 a22 l22 c22 k22 a23 l23 c23 k23 a24 l24 c24 k24 a25 l25 c25 k25 oa_Roll ob_Roll oc_Roll od_Roll oe_Roll of_Roll og_Roll oh_Roll_own_rules oh_Roll_pairs oh_Roll_earned_by z_bool z_isinstance z_int z_tuple z_len z_all z_str z_zip z_max z_abs z_ValueError z_range z_list z_min z_repr y_MOST_OF y_MOST_DAY y_MOST_PAIRS u_LINE_WORDS v_LINE_WORDS r_LINE_WORDS u_ROLL_WORDS v_ROLL_WORDS r_ROLL_WORDS xa_BadRules xt_BadRules xd_BadRules xs_BadRules xa_BadLineup xt_BadLineup xd_BadLineup xs_BadLineup xa_BadGround xt_BadGround xd_BadGround xs_BadGround xa_BadTrader xt_BadTrader xd_BadTrader xs_BadTrader xa_BadDay xt_BadDay xd_BadDay xs_BadDay xa_BadName xt_BadName xd_BadName xs_BadName xa_BadPitch xt_BadPitch xd_BadPitch xs_BadPitch xa_BadDeal xt_BadDeal xd_BadDeal xs_BadDeal xa_BadPaper xt_BadPaper xd_BadPaper xs_BadPaper xa_BadLine xt_BadLine xd_BadLine xs_BadLine xa_BadEvent xt_BadEvent xd_BadEvent xs_BadEvent xa_Twice xt_Twice xd_Twice xs_Twice xa_TooMany xt_TooMany xd_TooMany xs_TooMany xa_BadMend xt_BadMend xd_BadMend xs_BadMend xa_NoEvent xt_NoEvent xd_NoEvent xs_NoEvent xa_NoDay xt_NoDay xd_NoDay xs_NoDay xa_BadHistory xt_BadHistory xd_BadHistory xs_BadHistory xa_MarketError xt_MarketError xd_MarketError xs_MarketError xq_BadLineup xk_BadLineup xz_BadLineup xb_BadLineup xc_BadLineup xe_BadLineup xf_BadLineup xg_BadLineup xh_BadLineup xq_BadRules xk_BadRules xz_BadRules xb_BadRules xc_BadRules xe_BadRules xf_BadRules xg_BadRules xh_BadRules xw_BadLineup_BadDay xw_BadLineup_BadDeal xw_BadLineup_BadEvent xw_BadLineup_BadGround xw_BadLineup_BadHistory xw_BadLineup_BadLine xw_BadLineup_BadMend xw_BadLineup_BadName xw_BadLineup_BadPaper xw_BadLineup_BadPitch xw_BadLineup_BadRules xw_BadLineup_BadTrader xw_BadLineup_MarketError xw_BadLineup_NoDay xw_BadLineup_NoEvent xw_BadLineup_TooMany xw_BadLineup_Twice xw_BadLineup_ValueError xw_BadRules_BadDay xw_BadRules_BadDeal xw_BadRules_BadEvent xw_BadRules_BadGround xw_BadRules_BadHistory xw_BadRules_BadLine xw_BadRules_BadLineup xw_BadRules_BadMend xw_BadRules_BadName xw_BadRules_BadPaper xw_BadRules_BadPitch xw_BadRules_BadTrader xw_BadRules_MarketError xw_BadRules_NoDay xw_BadRules_NoEvent xw_BadRules_TooMany xw_BadRules_Twice xw_BadRules_ValueError tt22 (.head _) (List.forall_mem_cons.mpr ⟨(fun _ => rfl), (List.forall_mem_cons.mpr ⟨(fun e => absurd e te24_22), nofun⟩)⟩) tt24 (.tail _ (.head _)) (List.forall_mem_cons.mpr ⟨(fun e => absurd e te22_24), (List.forall_mem_cons.mpr ⟨(fun _ => rfl), nofun⟩)⟩)
  exact ⟨fd, [(lc22, lP22), (lc24, lP24)], @spC St2 ⟨[(lP22, lamQ "_law_right"), (lP24, lamQ "_law_far_right")]⟩ K R2i 1 F_law, (List.forall_mem_cons.mpr ⟨(TA _ _ _ tr22 tt22).2, (List.forall_mem_cons.mpr ⟨(TA _ _ _ tr24 tt24).2, nofun⟩)⟩), (List.forall_mem_cons.mpr ⟨tn22, (List.forall_mem_cons.mpr ⟨tn24, nofun⟩)⟩), (List.forall_mem_cons.mpr ⟨(TA _ _ _ tr22 tt22).1, (List.forall_mem_cons.mpr ⟨(TA _ _ _ tr24 tt24).1, nofun⟩)⟩), hb, fun base i1 i2 TB => hF base i1 i2 (TB _ (.head _)) (TB _ (.tail _ (.head _))), fun H a ns hl hT hS => @sp_ofT ⟨[(lP22, lamQ "_law_right"), (lP24, lamQ "_law_far_right")]⟩ St2 K R2i F_law 63 LAW.plain H a ns hl hS (List.forall_mem_cons.mpr ⟨(LamX.TabS.nil (hT _ (.head _))), (List.forall_mem_cons.mpr ⟨(LamX.TabS.nil (hT _ (.tail _ (.head _)))), nofun⟩)⟩)⟩
end LAW
open PySem PySem.W PyProof.Rows
set_option maxRecDepth 100000 in
set_option maxHeartbeats 0 in
theorem PySem.Challenge.cw_pitchward_k56_lines_looked_at_holds : PySem.Challenge.rw_pitchward_k56_lines_looked_at.Holds := by
  w_on; o_law; k_head; (case hw => w_witness2)
  k_fill
  refine DL.walkGT (l := PySem.Challenge.rw_pitchward_k56_lines_looked_at) (n := 63) (k := 11) (x := "_law_script") rfl (by decide) rfl ⟨rfl, by decide, by decide⟩ (fun w h Y => by first | exact PySem.W.km_in_of Y | exact PySem.W.kIn_of Y) ?F
  case F =>
    intro w mg fa h KX G hmg TA
    refine' LAW.all_mk2 KX G hmg ?a1 ?l1 ?c1 ?k1 ?a2 ?l2 ?c2 ?k2 ?a3 ?l3 ?c3 ?k3 ?a4 ?l4 ?c4 ?k4 ?a5 ?l5 ?c5 ?k5 ?a6 ?l6 ?c6 ?k6 ?a7 ?i7 ?l7 ?c7 ?k7 ?a8 ?i8 ?l8 ?c8 ?k8 ?a9 ?i9 ?l9 ?c9 ?k9 ?a10 ?i10 ?l10 ?c10 ?k10 ?a11 ?i11 ?l11 ?c11 ?k11 ?a12 ?i12 ?l12 ?c12 ?k12 ?a13 ?l13 ?c13 ?k13 ?a14 ?l14 ?c14 ?k14 ?a15 ?l15 ?c15 ?k15 ?a16 ?l16 ?c16 ?k16 ?a17 ?l17 ?c17 ?k17 ?a18 ?l18 ?c18 ?k18 ?a19 ?l19 ?c19 ?k19 ?a20 ?l20 ?c20 ?k20 ?a21 ?l21 ?c21 ?k21 ?a22 ?l22 ?c22 ?k22 ?a23 ?l23 ?c23 ?k23 ?a24 ?l24 ?c24 ?k24 ?a25 ?l25 ?c25 ?k25 ?oa_Roll ?ob_Roll ?oc_Roll ?od_Roll ?oe_Roll ?of_Roll ?og_Roll ?oh_Roll_own_rules ?oh_Roll_pairs ?oh_Roll_earned_by ?z_bool ?z_isinstance ?z_int ?z_tuple ?z_len ?z_all ?z_str ?z_zip ?z_max ?z_abs ?z_ValueError ?z_range ?z_list ?z_min ?z_repr ?y_MOST_OF ?y_MOST_DAY ?y_MOST_PAIRS ?u_LINE_WORDS ?v_LINE_WORDS ?r_LINE_WORDS ?u_ROLL_WORDS ?v_ROLL_WORDS ?r_ROLL_WORDS ?xa_BadRules ?xt_BadRules ?xd_BadRules ?xs_BadRules ?xa_BadLineup ?xt_BadLineup ?xd_BadLineup ?xs_BadLineup ?xa_BadGround ?xt_BadGround ?xd_BadGround ?xs_BadGround ?xa_BadTrader ?xt_BadTrader ?xd_BadTrader ?xs_BadTrader ?xa_BadDay ?xt_BadDay ?xd_BadDay ?xs_BadDay ?xa_BadName ?xt_BadName ?xd_BadName ?xs_BadName ?xa_BadPitch ?xt_BadPitch ?xd_BadPitch ?xs_BadPitch ?xa_BadDeal ?xt_BadDeal ?xd_BadDeal ?xs_BadDeal ?xa_BadPaper ?xt_BadPaper ?xd_BadPaper ?xs_BadPaper ?xa_BadLine ?xt_BadLine ?xd_BadLine ?xs_BadLine ?xa_BadEvent ?xt_BadEvent ?xd_BadEvent ?xs_BadEvent ?xa_Twice ?xt_Twice ?xd_Twice ?xs_Twice ?xa_TooMany ?xt_TooMany ?xd_TooMany ?xs_TooMany ?xa_BadMend ?xt_BadMend ?xd_BadMend ?xs_BadMend ?xa_NoEvent ?xt_NoEvent ?xd_NoEvent ?xs_NoEvent ?xa_NoDay ?xt_NoDay ?xd_NoDay ?xs_NoDay ?xa_BadHistory ?xt_BadHistory ?xd_BadHistory ?xs_BadHistory ?xa_MarketError ?xt_MarketError ?xd_MarketError ?xs_MarketError ?xq_BadLineup ?xk_BadLineup ?xz_BadLineup ?xb_BadLineup ?xc_BadLineup ?xe_BadLineup ?xf_BadLineup ?xg_BadLineup ?xh_BadLineup ?xq_BadRules ?xk_BadRules ?xz_BadRules ?xb_BadRules ?xc_BadRules ?xe_BadRules ?xf_BadRules ?xg_BadRules ?xh_BadRules ?xw_BadLineup_BadDay ?xw_BadLineup_BadDeal ?xw_BadLineup_BadEvent ?xw_BadLineup_BadGround ?xw_BadLineup_BadHistory ?xw_BadLineup_BadLine ?xw_BadLineup_BadMend ?xw_BadLineup_BadName ?xw_BadLineup_BadPaper ?xw_BadLineup_BadPitch ?xw_BadLineup_BadRules ?xw_BadLineup_BadTrader ?xw_BadLineup_MarketError ?xw_BadLineup_NoDay ?xw_BadLineup_NoEvent ?xw_BadLineup_TooMany ?xw_BadLineup_Twice ?xw_BadLineup_ValueError ?xw_BadRules_BadDay ?xw_BadRules_BadDeal ?xw_BadRules_BadEvent ?xw_BadRules_BadGround ?xw_BadRules_BadHistory ?xw_BadRules_BadLine ?xw_BadRules_BadLineup ?xw_BadRules_BadMend ?xw_BadRules_BadName ?xw_BadRules_BadPaper ?xw_BadRules_BadPitch ?xw_BadRules_BadTrader ?xw_BadRules_MarketError ?xw_BadRules_NoDay ?xw_BadRules_NoEvent ?xw_BadRules_TooMany ?xw_BadRules_Twice ?xw_BadRules_ValueError TA ?ts22 ?tm22 ?tv22 ?tn22 ?tr22 ?ts24 ?tm24 ?tv24 ?tn24 ?tr24 ?te22_24 ?te24_22
    (case oa_Roll => k_is)
    (case a1 => k_is)
    (case l1 => k_is)
    (case c1 => k_is)
    (case k1 => k_is)
    (case a2 => k_is)
    (case l2 => k_is)
    (case c2 => k_is)
    (case k2 => k_is)
    (case a3 => k_is)
    (case l3 => k_is)
    (case c3 => k_is)
    (case k3 => k_is)
    (case a4 => k_is)
    (case l4 => k_is)
    (case c4 => k_is)
    (case k4 => k_is)
    (case a5 => k_is)
    (case l5 => k_is)
    (case c5 => k_is)
    (case k5 => k_is)
    (case a6 => k_is)
    (case l6 => k_is)
    (case c6 => k_is)
    (case k6 => k_is)
    (case a7 => k_is)
    (case i7 => k_is)
    (case l7 => k_is)
    (case c7 => k_is)
    (case k7 => k_is)
    (case a8 => k_is)
    (case i8 => k_is)
    (case l8 => k_is)
    (case c8 => k_is)
    (case k8 => k_is)
    (case a9 => k_is)
    (case i9 => k_is)
    (case l9 => k_is)
    (case c9 => k_is)
    (case k9 => k_is)
    (case a10 => k_is)
    (case i10 => k_is)
    (case l10 => k_is)
    (case c10 => k_is)
    (case k10 => k_is)
    (case a11 => k_is)
    (case i11 => k_is)
    (case l11 => k_is)
    (case c11 => k_is)
    (case k11 => k_is)
    (case a12 => k_is)
    (case i12 => k_is)
    (case l12 => k_is)
    (case c12 => k_is)
    (case k12 => k_is)
    (case a13 => k_is)
    (case l13 => k_is)
    (case c13 => k_is)
    (case k13 => k_is)
    (case a14 => k_is)
    (case l14 => k_is)
    (case c14 => k_is)
    (case k14 => k_is)
    (case a15 => k_is)
    (case l15 => k_is)
    (case c15 => k_is)
    (case k15 => k_is)
    (case a16 => k_is)
    (case l16 => k_is)
    (case c16 => k_is)
    (case k16 => k_is)
    (case a17 => k_is)
    (case l17 => k_is)
    (case c17 => k_is)
    (case k17 => k_is)
    (case a18 => k_is)
    (case l18 => k_is)
    (case c18 => k_is)
    (case k18 => k_is)
    (case a19 => k_is)
    (case l19 => k_is)
    (case c19 => k_is)
    (case k19 => k_is)
    (case a20 => k_is)
    (case l20 => k_is)
    (case c20 => k_is)
    (case k20 => k_is)
    (case a21 => k_is)
    (case l21 => k_is)
    (case c21 => k_is)
    (case k21 => k_is)
    (case a22 => k_is)
    (case l22 => k_is)
    (case c22 => k_is)
    (case k22 => k_is)
    (case a23 => k_is)
    (case l23 => k_is)
    (case c23 => k_is)
    (case k23 => k_is)
    (case a24 => k_is)
    (case l24 => k_is)
    (case c24 => k_is)
    (case k24 => k_is)
    (case a25 => k_is)
    (case l25 => k_is)
    (case c25 => k_is)
    (case k25 => k_is)
    (case ob_Roll => k_is)
    (case oc_Roll => k_is)
    (case od_Roll => k_is)
    (case oe_Roll => k_is)
    (case of_Roll => k_is)
    (case og_Roll => k_is)
    (case oh_Roll_own_rules => k_is)
    (case oh_Roll_pairs => k_is)
    (case oh_Roll_earned_by => k_is)
    (case z_bool => k_is)
    (case z_isinstance => k_is)
    (case z_int => k_is)
    (case z_tuple => k_is)
    (case z_len => k_is)
    (case z_all => k_is)
    (case z_str => k_is)
    (case z_zip => k_is)
    (case z_max => k_is)
    (case z_abs => k_is)
    (case z_ValueError => k_is)
    (case z_range => k_is)
    (case z_list => k_is)
    (case z_min => k_is)
    (case z_repr => k_is)
    (case y_MOST_OF => k_is)
    (case y_MOST_DAY => k_is)
    (case y_MOST_PAIRS => k_is)
    (case u_LINE_WORDS => k_is)
    (case v_LINE_WORDS => k_is)
    (case r_LINE_WORDS => (repeat first | exact .nil | refine .cons ⟨_, rfl⟩ ?_))
    (case u_ROLL_WORDS => k_is)
    (case v_ROLL_WORDS => k_is)
    (case r_ROLL_WORDS => (repeat first | exact .nil | refine .cons ⟨_, rfl⟩ ?_))
    (case xa_BadRules => k_is)
    (case xt_BadRules => k_is)
    (case xd_BadRules => k_is)
    (case xs_BadRules => k_is)
    (case xa_BadLineup => k_is)
    (case xt_BadLineup => k_is)
    (case xd_BadLineup => k_is)
    (case xs_BadLineup => k_is)
    (case xa_BadGround => k_is)
    (case xt_BadGround => k_is)
    (case xd_BadGround => k_is)
    (case xs_BadGround => k_is)
    (case xa_BadTrader => k_is)
    (case xt_BadTrader => k_is)
    (case xd_BadTrader => k_is)
    (case xs_BadTrader => k_is)
    (case xa_BadDay => k_is)
    (case xt_BadDay => k_is)
    (case xd_BadDay => k_is)
    (case xs_BadDay => k_is)
    (case xa_BadName => k_is)
    (case xt_BadName => k_is)
    (case xd_BadName => k_is)
    (case xs_BadName => k_is)
    (case xa_BadPitch => k_is)
    (case xt_BadPitch => k_is)
    (case xd_BadPitch => k_is)
    (case xs_BadPitch => k_is)
    (case xa_BadDeal => k_is)
    (case xt_BadDeal => k_is)
    (case xd_BadDeal => k_is)
    (case xs_BadDeal => k_is)
    (case xa_BadPaper => k_is)
    (case xt_BadPaper => k_is)
    (case xd_BadPaper => k_is)
    (case xs_BadPaper => k_is)
    (case xa_BadLine => k_is)
    (case xt_BadLine => k_is)
    (case xd_BadLine => k_is)
    (case xs_BadLine => k_is)
    (case xa_BadEvent => k_is)
    (case xt_BadEvent => k_is)
    (case xd_BadEvent => k_is)
    (case xs_BadEvent => k_is)
    (case xa_Twice => k_is)
    (case xt_Twice => k_is)
    (case xd_Twice => k_is)
    (case xs_Twice => k_is)
    (case xa_TooMany => k_is)
    (case xt_TooMany => k_is)
    (case xd_TooMany => k_is)
    (case xs_TooMany => k_is)
    (case xa_BadMend => k_is)
    (case xt_BadMend => k_is)
    (case xd_BadMend => k_is)
    (case xs_BadMend => k_is)
    (case xa_NoEvent => k_is)
    (case xt_NoEvent => k_is)
    (case xd_NoEvent => k_is)
    (case xs_NoEvent => k_is)
    (case xa_NoDay => k_is)
    (case xt_NoDay => k_is)
    (case xd_NoDay => k_is)
    (case xs_NoDay => k_is)
    (case xa_BadHistory => k_is)
    (case xt_BadHistory => k_is)
    (case xd_BadHistory => k_is)
    (case xs_BadHistory => k_is)
    (case xa_MarketError => k_is)
    (case xt_MarketError => k_is)
    (case xd_MarketError => k_is)
    (case xs_MarketError => k_is)
    (case xq_BadLineup => k_exc)
    (case xk_BadLineup => k_is)
    (case xz_BadLineup => k_is)
    (case xb_BadLineup => k_is)
    (case xc_BadLineup => k_is)
    (case xe_BadLineup => k_is)
    (case xf_BadLineup => k_is)
    (case xg_BadLineup => k_is)
    (case xh_BadLineup => k_is)
    (case xq_BadRules => k_exc)
    (case xk_BadRules => k_is)
    (case xz_BadRules => k_is)
    (case xb_BadRules => k_is)
    (case xc_BadRules => k_is)
    (case xe_BadRules => k_is)
    (case xf_BadRules => k_is)
    (case xg_BadRules => k_is)
    (case xh_BadRules => k_is)
    (case xw_BadLineup_BadDay => k_is)
    (case xw_BadLineup_BadDeal => k_is)
    (case xw_BadLineup_BadEvent => k_is)
    (case xw_BadLineup_BadGround => k_is)
    (case xw_BadLineup_BadHistory => k_is)
    (case xw_BadLineup_BadLine => k_is)
    (case xw_BadLineup_BadMend => k_is)
    (case xw_BadLineup_BadName => k_is)
    (case xw_BadLineup_BadPaper => k_is)
    (case xw_BadLineup_BadPitch => k_is)
    (case xw_BadLineup_BadRules => k_is)
    (case xw_BadLineup_BadTrader => k_is)
    (case xw_BadLineup_MarketError => k_is)
    (case xw_BadLineup_NoDay => k_is)
    (case xw_BadLineup_NoEvent => k_is)
    (case xw_BadLineup_TooMany => k_is)
    (case xw_BadLineup_Twice => k_is)
    (case xw_BadLineup_ValueError => k_is)
    (case xw_BadRules_BadDay => k_is)
    (case xw_BadRules_BadDeal => k_is)
    (case xw_BadRules_BadEvent => k_is)
    (case xw_BadRules_BadGround => k_is)
    (case xw_BadRules_BadHistory => k_is)
    (case xw_BadRules_BadLine => k_is)
    (case xw_BadRules_BadLineup => k_is)
    (case xw_BadRules_BadMend => k_is)
    (case xw_BadRules_BadName => k_is)
    (case xw_BadRules_BadPaper => k_is)
    (case xw_BadRules_BadPitch => k_is)
    (case xw_BadRules_BadTrader => k_is)
    (case xw_BadRules_MarketError => k_is)
    (case xw_BadRules_NoDay => k_is)
    (case xw_BadRules_NoEvent => k_is)
    (case xw_BadRules_TooMany => k_is)
    (case xw_BadRules_Twice => k_is)
    (case xw_BadRules_ValueError => k_is)
    (case ts22 => rfl)
    (case tm22 => k_is)
    (case tv22 => rfl)
    (case tn22 => first | kernel_rfl | rfl | decide +kernel)
    (case tr22 => first | rfl | decide +kernel)
    (case ts24 => rfl)
    (case tm24 => k_is)
    (case tv24 => rfl)
    (case tn24 => first | kernel_rfl | rfl | decide +kernel)
    (case tr24 => first | rfl | decide +kernel)
    (case te22_24 => decide +kernel)
    (case te24_22 => decide +kernel)
